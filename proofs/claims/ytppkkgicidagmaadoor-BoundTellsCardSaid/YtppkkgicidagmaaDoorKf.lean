/-
  What functions of the program answer, as numbers of what they are handed: their runs by the engine, the plain statements behind them. No condition.
-/
import Derived.Test.YtppkkgicidagmaaDoorKa
import Derived.Test.YtppkkgicidagmaaDoorKb
import Derived.Test.YtppkkgicidagmaaDoorKc
import Derived.Test.YtppkkgicidagmaaDoorKd
import Derived.Test.YtppkkgicidagmaaDoorKe
import Derived.Test.YtppkkgicidagmaaDoorGab
import Derived.Test.YtppkkgicidagmaaDoorGp2
import Derived.Test.YtppkkgicidagmaaDoorGp3
import Derived.Test.YtppkkgicidagmaaDoorGib
set_option linter.unusedVariables false
set_option linter.unusedSimpArgs false
set_option maxRecDepth 100000
namespace Go.Proofs.YtppkkgicidagmaaDoor
open Go.Eng Go.RowKit
namespace CRCyc18
def rc : Rc := ⟨24, [none], [.row [.int .u32] 1000000], [(.b .le .i64 (.v 0) (.c 1000))], .one, [.bool (.f 170 (.v 1) (.v 0) (.c 0))]⟩
theorem okb : rc.ok = true := by kernel_rfl
noncomputable def us : SMs := fun Γ ins n => smH (cxG n Γ ins) [] (smR (cxG n Γ ins) [CRNext18.rc, CRReached18.rc, CRFrom18.rc])
theorem us_ok : SMsOk us := fun Γ ins n => qXu (tabsG n Γ ins) (qJp _) (qXm (tabsG n Γ ins) (qQp CRNext18.okb (rc_n CRNext18.ok) (qQp CRReached18.okb (rc_n CRReached18.ok) (qQp CRFrom18.okb (rc_n CRFrom18.ok) (qJs _)))))
def Q0 : E := (.cl 1000 0 4611686018427387904)
def Q1 : E := (.cl 1002 0 4611686018427387904)
def Q2 : E := (tC (.c (-1)) (.c 0))
def Q3 : E := (tp Q1 (.c 1))
def Q4 : E := (tl Q3 (.c 4611686018427387904))
def Q5 : E := (tp Q0 (.c 1))
def tree : TT (List E) :=
 (.br (tl (.v 0) (.v 2)) (.br (tl (.v 0) (.c 1000)) (.loop ⟨1000, [some (0, 4611686018427387904)], [(.c 0)], 1006⟩ (.br (tk Q0 (.v 0)) (.loop ⟨1002, [some (0, 4611686018427387904)], [(.c 0)], 1005⟩ (.br (tk Q1 (.f 162 (.v 1) (.v 0) Q0)) (.br (tR (.f 164 (.v 1) (.v 0) (tC (.c 0) Q2)) Q0) (.new 1004 (t6 (tR (.f 163 (.v 1) (.v 0) Q0) Q1)) (.br (tR (.f 164 (.v 1) (.v 0) (tC (.cl 1004 (-9223372036854775808) 9223372036854775807) Q2)) Q0) (.exit 0) (.br Q4 (.back [Q3]) (.bad 303)))) (.br Q4 (.back [Q3]) (.bad 303))) (.exit 1)) (.br (te (.v 1005) (.c 0)) (.exit 0) (.br (tl Q5 (.c 4611686018427387904)) (.back [Q5]) (.bad 303)))) (.exit 1)) (.br (te (.v 1006) (.c 0)) (.leaf [(.c 1)]) (.leaf [(.c 0)]))) (.bad 200)) (.bad 200))
def P (a b c : Int) : Prop :=
 (Pm (PL a c) (Pm (PL a 1000) (∃ I1000 : Int → Nat → Prop, (∃ m, I1000 0 m) ∧ ∀ y0 : Int, ∀ m0, ((0 ≤ y0 ∧ y0 ≤ 4611686018427387904) ∧ True) → I1000 y0 m0 → (Pb (Pl y0 a) (∃ I1002 : Int → Nat → Prop, (∃ m, I1002 0 m) ∧ ∀ y2 : Int, ∀ m2, ((0 ≤ y2 ∧ y2 ≤ 4611686018427387904) ∧ True) → I1002 y2 m2 → (Pb (Pl y2 (nxN b a y0)) (Pb (rdZ (gfmZ b a (kZ 0 (kZ (-1) 0))) y0) (Pn (W6 (rdZ (nxZ b a y0) y2)) (-9223372036854775808) 9223372036854775807 fun y4 => (Pb (rdZ (gfmZ b a (kZ y4 (kZ (-1) 0))) y0) (Pb (Pe (0 : Int) 0) (Pb (Pe (0 : Int) 0) (((1 : Int) ≠ 0 ↔ ((cycZ b a) : Int) ≠ 0) ∧ True) (((0 : Int) ≠ 0 ↔ ((cycZ b a) : Int) ≠ 0) ∧ True)) (Pm (PL (y0 + 1) 4611686018427387904) (∃ m', m' < m0 ∧ I1000 (y0 + 1) m'))) (Pm (PL (y2 + 1) 4611686018427387904) (∃ m', m' < m2 ∧ I1002 (y2 + 1) m')))) (Pm (PL
 (y2 + 1) 4611686018427387904) (∃ m', m' < m2 ∧ I1002 (y2 + 1) m'))) (Pb (Pe (1 : Int) 0) (Pb (Pe (0 : Int) 0) (((1 : Int) ≠ 0 ↔ ((cycZ b a) : Int) ≠ 0) ∧ True) (((0 : Int) ≠ 0 ↔ ((cycZ b a) : Int) ≠ 0) ∧ True)) (Pm (PL (y0 + 1) 4611686018427387904) (∃ m', m' < m0 ∧ I1000 (y0 + 1) m'))))) (Pb (Pe (1 : Int) 0) (((1 : Int) ≠ 0 ↔ ((cycZ b a) : Int) ≠ 0) ∧ True) (((0 : Int) ≠ 0 ↔ ((cycZ b a) : Int) ≠ 0) ∧ True))))))
set_option maxHeartbeats 4000000 in
theorem holds (n0 c0 r0 : Int) (l_n0 : 0 ≤ n0) (u_n0 : n0 ≤ 1000000) (h_n0 : n0 ≤ r0) (h_pre0 : qQz (decide (n0  ≤  1000)) ≠ 0) : P n0 c0 r0 := by
 delta P Pb Pm Pn PL Pl Pe W6 kZ
 simp only [nrm, nro, Int.reduceEq, Int.reduceNeg, reduceIte]
 have hn : n0 ≤ 1000 := by simpa [qQz] using h_pre0
 refine ⟨h_n0, hn, ?_⟩
 refine ⟨fun p m => (0 ≤ p ∧ p ≤ n0) ∧ (∀ x : Nat, (x : Int) < p → NoC c0 n0 x) ∧ m = (n0 - p).toNat, ⟨_, ⟨by omega, by omega⟩, fun x hx => by omega, rfl⟩, ?_⟩
 rintro p m ⟨p8, p9⟩ ⟨⟨p0, p1⟩, hP, rfl⟩
 refine ⟨fun plt => ?_, fun pge => ?_⟩
 ·refine ⟨fun k m => (0 ≤ k ∧ k ≤ nxN c0 n0 p) ∧ NoK c0 n0 p k ∧ m = (nxN c0 n0 p - k).toNat, ⟨_, ⟨by omega, (nxN_bd c0 n0 p).1⟩, fun j t hj => by omega, rfl⟩, ?_⟩
  rintro k m ⟨k8, k9⟩ ⟨⟨k0, k1⟩, hK, rfl⟩
  have hN := nxN_bd c0 n0 p
  have hr := gfm_0 (c := c0) hn p0 plt
  refine ⟨fun klt => ?_, fun kge => ?_⟩
  ·obtain ⟨t, ht, hw, htn⟩ := nx_at (c := c0) hn p0 k0 klt
   refine ⟨fun h => ?_, fun h => ?_⟩
   ·rintro u hu -
    rw [hw] at hu
    subst hu
    have hf := gfm_f (c := c0) hn (by omega : (0 : Int) ≤ (t : Int)) htn p0 plt
    rw [Int.toNat_natCast] at hf
    refine ⟨fun g => ?_, fun g => ?_⟩
    ·have hc := cyc_some (hr.1 h) (List.mem_of_getElem? ht) (hf.1 g)
     exact hc
    ·exact ⟨by omega, _, by omega, ⟨by omega, by omega⟩, hK.next k0 ht (fun _ w => hf.2 w g), rfl⟩
   ·exact ⟨by omega, _, by omega, ⟨by omega, by omega⟩, hK.next k0 ht (fun w => absurd (hr.2 w) (by simpa using h)), rfl⟩
  ·refine ⟨by omega, _, by omega, ⟨by omega, by omega⟩, fun x hx => ?_, rfl⟩
   by_cases e : (x : Int) = p
   ·have := hK.done p0 kge
    rw [← e, Int.toNat_natCast] at this
    exact this
   ·exact hP x (by omega)
 ·exact cyc_none fun x hx => hP x (by omega)
theorem plain (i v ro p) : statR 2 rc tree ⟨i, fN, v, ro, p⟩ = P (i 0) (i 1) (i 2) := by kernel_rfl
theorem ran : ranR us (fun _ _ => .auto) rc 2 tree = true := by kernel_rfl
theorem fineT : fineR 2 rc tree = true := by kernel_rfl
theorem ok : RcOk (cxOf 2) rc := okR us_ok ran fineT okb fun i v ro p hρ hcap hpre => by rw [plain]; have q := hρ.hi; exact holds _ _ _ (q 0 _ rfl).1 (q 0 _ rfl).2 (hcap _ (mg 0 rfl)) (hpre _ (mg 0 rfl))
end CRCyc18
namespace CRFree44
def rc : Rc := ⟨11, [none], [.row [.int .u32] 1000000], [(.b .le .i64 (.v 0) (.c 64))], .one, [.bool (.f 187 (.v 1) (.v 0) (.c 0))]⟩
theorem okb : rc.ok = true := by kernel_rfl
noncomputable def us : SMs := fun Γ ins n => smH (cxG n Γ ins) [] (smR (cxG n Γ ins) [CRDec.rc, CRReached18.rc, CRCyc18.rc])
theorem us_ok : SMsOk us := fun Γ ins n => qXu (tabsG n Γ ins) (qJp _) (qXm (tabsG n Γ ins) (qQp CRDec.okb (rc_n CRDec.ok) (qQp CRReached18.okb (rc_n CRReached18.ok) (qQp CRCyc18.okb (rc_n CRCyc18.ok) (qJs _)))))
def Q0 : E := (.cl 1000 0 4611686018427387904)
def Q1 : E := (tR (.v 1) Q0)
def Q2 : E := (.w .u32 Q1)
def Q3 : E := (tp Q0 (.c 1))
def Q4 : E := (tl Q3 (.c 4611686018427387904))
def tree : TT (List E) :=
 (.br (tl (.v 0) (.v 2)) (.br (tl (.v 0) (.c 1000)) (.loop ⟨1000, [some (0, 4611686018427387904)], [(.c 0)], 1008⟩ (.br (tk Q0 (.v 0)) (.new 1002 (.f 67 Q2 (.c 0) (.c 0)) (.new 1003 (.f 67 Q2 (.c 1) (.c 0)) (.new 1004 (.f 67 Q2 (.c 2) (.c 0)) (.new 1005 (.f 67 Q2 (.c 3) (.c 0)) (.new 1006 (.f 67 Q2 (.c 4) (.c 0)) (.new 1007 (.f 67 Q2 (.c 5) (.c 0)) (.br (te (.cl 1007 (-32768) 65535) (.c 0)) (.br (tR (.f 164 (.v 1) (.v 0) (tC (.c 0) (tC (.c (-1)) (.c 0)))) Q0) (.br (te (.cl 1002 (-32768) 65535) (.c 41)) (.exit 0) (.br Q4 (.back [Q3]) (.bad 303))) (.br Q4 (.back [Q3]) (.bad 303))) (.br Q4 (.back [Q3]) (.bad 303))))))))) (.exit 1)) (.br (te (.v 1008) (.c 0)) (.leaf [(.c 0)]) (.leaf [(.nt (.f 170 (.v 1) (.v 0) (.c 0)))]))) (.bad 200)) (.bad 200))
def P (a b c : Int) : Prop :=
 (Pm (PL a c) (Pm (PL a 1000) (∃ I1000 : Int → Nat → Prop, (∃ m, I1000 0 m) ∧ ∀ y0 : Int, ∀ m0, ((0 ≤ y0 ∧ y0 ≤ 4611686018427387904) ∧ True) → I1000 y0 m0 → (Pb (Pl y0 a) (Pn (decZ (U3 (rdZ b y0)) 0) (-32768) 65535 fun y2 => Pn (decZ (U3 (rdZ b y0)) 1) (-32768) 65535 fun y3 => Pn (decZ (U3 (rdZ b y0)) 2) (-32768) 65535 fun y4 => Pn (decZ (U3 (rdZ b y0)) 3) (-32768) 65535 fun y5 => Pn (decZ (U3 (rdZ b y0)) 4) (-32768) 65535 fun y6 => Pn (decZ (U3 (rdZ b y0)) 5) (-32768) 65535 fun y7 => (Pb (Pe y7 0) (Pb (rdZ (gfmZ b a (kZ 0 (kZ (-1) 0))) y0) (Pb (Pe y2 41) (Pb (Pe (0 : Int) 0) (((0 : Int) ≠ 0 ↔ ((frZ b a) : Int) ≠ 0) ∧ True) ((((Pe (cycZ b a) 0) : Int) ≠ 0 ↔ ((frZ b a) : Int) ≠ 0) ∧ True)) (Pm (PL (y0 + 1) 4611686018427387904) (∃ m', m' < m0 ∧ I1000 (y0 + 1) m'))) (Pm (PL (y0 + 1)
 4611686018427387904) (∃ m', m' < m0 ∧ I1000 (y0 + 1) m'))) (Pm (PL (y0 + 1) 4611686018427387904) (∃ m', m' < m0 ∧ I1000 (y0 + 1) m')))) (Pb (Pe (1 : Int) 0) (((0 : Int) ≠ 0 ↔ ((frZ b a) : Int) ≠ 0) ∧ True) ((((Pe (cycZ b a) 0) : Int) ≠ 0 ↔ ((frZ b a) : Int) ≠ 0) ∧ True))))))
theorem holds (n0 c0 r0 : Int) (l_n0 : 0 ≤ n0) (u_n0 : n0 ≤ 1000000) (h_n0 : n0 ≤ r0) (h_pre0 : qQz (decide (n0  ≤  64)) ≠ 0) : P n0 c0 r0 := by
 delta P Pb Pm Pn PL Pl Pe U3 kZ
 simp only [nrm, nro, Int.reduceEq, Int.reduceNeg, reduceIte]
 have hn : n0 ≤ 64 := by simpa [qQz] using h_pre0
 have fz : frZ c0 n0 ≠ 0 ↔ frP c0 n0 := by unfold frZ; split <;> simp_all
 refine ⟨h_n0, by omega, ?_⟩
 refine ⟨fun p m => (0 ≤ p ∧ p ≤ n0) ∧ (∀ x : Nat, (x : Int) < p → Eng.Way (nxf c0 n0) (fun _ => False) 0 x → opP c0 x ≠ 41) ∧ m = (n0 - p).toNat, ⟨_, ⟨by omega, by omega⟩, fun x hx => by omega, rfl⟩, ?_⟩
 rintro p m ⟨p8, p9⟩ ⟨⟨p0, p1⟩, hP, rfl⟩
 refine ⟨fun plt => ?_, fun pge => ?_⟩
 ·rintro y2 e2 - y3 - - y4 - - y5 - - y6 - - y7 e7 -
  have hr := gfm_0 (c := c0) (n := n0) (x := p) (by omega) p0 plt
  have hd := dec_two (rdZ c0 p)
  rw [← e2, ← e7] at hd
  obtain ⟨k, rfl⟩ := Int.eq_ofNat_of_zero_le p0
  rw [Int.toNat_natCast] at hr
  have hop : opP c0 k = y2 := e2.symm
  have hk : (k : Int) + 1 ≤ 4611686018427387904 := by omega
  have h70 : ¬y7 = 0 → y2 ≠ 41 := by omega
  have hnx : (Eng.Way (nxf c0 n0) (fun _ => False) 0 k → y2 ≠ 41) → ∀ x : Nat, (x : Int) < (k : Int) + 1 → Eng.Way (nxf c0 n0) (fun _ => False) 0 x → opP c0 x ≠ 41 := fun h x hx hw => by
   by_cases e : x = k
   ·subst e; rw [hop]; exact h hw
   ·exact hP x (by omega) hw
  have go : (Eng.Way (nxf c0 n0) (fun _ => False) 0 k → y2 ≠ 41) → ∃ m', m' < (n0 - (k : Int)).toNat ∧ ((0 ≤ (k : Int) + 1 ∧ (k : Int) + 1 ≤ n0) ∧ (∀ x : Nat, (x : Int) < (k : Int) + 1 → Eng.Way (nxf c0 n0) (fun _ => False) 0 x → opP c0 x ≠ 41) ∧ m' = (n0 - ((k : Int) + 1)).toNat) := fun h =>
   ⟨(n0 - ((k : Int) + 1)).toNat, by omega, ⟨by omega, by omega⟩, hnx h, rfl⟩
  refine ⟨fun h7 => ⟨fun hw => ⟨fun h41 => ?_, fun h41 => ?_⟩, fun hw => ?_⟩, fun h7 => ?_⟩
  ·have : ¬frP c0 n0 := fun hf => hf.2 k plt (hr.1 hw) (by rw [hop]; exact h41)
   have := fun h => this (fz.1 h)
   simp_all
  ·exact ⟨hk, go fun _ => h41⟩
  ·exact ⟨hk, go fun w => absurd (hr.2 w) (by simpa using hw)⟩
  ·exact ⟨hk, go fun _ => h70 h7⟩
 ·have hf : frP c0 n0 ↔ cycZ c0 n0 = 0 := by
   refine ⟨fun h => Classical.byContradiction fun g => h.1 (cyc_ne.1 g), fun h => ⟨fun g => cyc_ne.2 g h, fun x hx hw => hP x (by omega) hw⟩⟩
  have := fz.trans hf
  simp_all
theorem plain (i v ro p) : statR 2 rc tree ⟨i, fN, v, ro, p⟩ = P (i 0) (i 1) (i 2) := by kernel_rfl
theorem ran : ranR us (fun _ _ => .auto) rc 2 tree = true := by kernel_rfl
theorem fineT : fineR 2 rc tree = true := by kernel_rfl
theorem ok : RcOk (cxOf 2) rc := okR us_ok ran fineT okb fun i v ro p hρ hcap hpre => by rw [plain]; have q := hρ.hi; exact holds _ _ _ (q 0 _ rfl).1 (q 0 _ rfl).2 (hcap _ (mg 0 rfl)) (hpre _ (mg 0 rfl))
end CRFree44
namespace CRMost44
def rc : Rc := ⟨6, [none], [.row [.int .u32] 1000000], [(.b .le .i64 (.v 0) (.c 64))], .tup [none, none], [.int .i64 (.f 180 (.v 1) (.v 0) (.c 0)), .int .i64 (.f 181 (.v 1) (.v 0) (.c 0))]⟩
theorem okb : rc.ok = true := by kernel_rfl
noncomputable def us : SMs := fun Γ ins n => smH (cxG n Γ ins) [] (smAnd 12 (libRbMost Γ ins n) (smR (cxG n Γ ins) [CRDec.rc, CRCost6.rc, CRFree44.rc]))
theorem us_ok : SMsOk us := fun Γ ins n => qXu (tabsG n Γ ins) (qJp _) (smAnd_ok (libRbMost_ok CRCost6.costC CRDec.decC Γ ins n) (qXm (tabsG n Γ ins) (qQp CRDec.okb (rc_n CRDec.ok) (qQp CRCost6.okb (rc_n CRCost6.ok) (qQp CRFree44.okb (rc_n CRFree44.ok) (qJs _))))))
def tree : TT (List E) :=
(.br (.b .le .i64 (.v 0) (.v 2))
 (.br (.b .le .i64 (.v 0) (.c 64))
 (.br (.nt (.f 187 (.v 1) (.v 0) (.c 0)))
 (.leaf [(.c 0), (.c 12)])
 (.br (.b .le .i64 (.c 1) (.f 187 (.v 1) (.v 0) (.c 0)))
 (.leaf [(.f 184 (.v 1) (.v 0) (.c 0)), (.c 0)])
 (.bad 200)))
 (.bad 200))
 (.bad 200))
def P (n0 c0 r0 : Int) : Prop :=
 (((qQz (decide (n0 ≤ r0))) ≠ 0 →
  (((qQz (decide (n0 ≤ 64))) ≠ 0 →
   (((qQz ((frZ c0 n0) == 0)) ≠ 0 →
    (0 : Int) = (bmN c0 n0) ∧ (12 : Int) = (bmE c0 n0) ∧ True) ∧ ((qQz ((frZ c0 n0) == 0)) = 0 →
    (((qQz (decide (1 ≤ (frZ c0 n0)))) ≠ 0 →
     ((mstZ c0 n0 0) : Int) = (bmN c0 n0) ∧ (0 : Int) = (bmE c0 n0) ∧ True) ∧ ((qQz (decide (1 ≤ (frZ c0 n0)))) = 0 →
     False))))) ∧ ((qQz (decide (n0 ≤ 64))) = 0 →
   False))) ∧ ((qQz (decide (n0 ≤ r0))) = 0 →
  False))
theorem holds (n0 c0 r0 : Int) (l_n0 : 0 ≤ n0) (u_n0 : n0 ≤ 1000000) (h_n0 : n0 ≤ r0) (h_pre0 : qQz (decide (n0  ≤  64)) ≠ 0) : P n0 c0 r0 := by
 unfold P
 simp only [nrm, nro, Int.reduceEq, Int.reduceNeg, reduceIte]
 have hn : n0 ≤ 64 := by simpa [qQz] using h_pre0
 have hb := frZ_bd c0 n0
 refine ⟨h_n0, by omega, fun h => ?_, fun h => ⟨by omega, ?_⟩⟩
 ·have h : frZ c0 n0 = 0 := by simpa using h
  have h' : ¬frZ c0 n0 = 1 := by omega
  simp [bmN, bmE, h']
 ·have h' : frZ c0 n0 = 1 := by omega
  simp [bmN, bmE, h']
theorem plain (i v ro p) : statR 2 rc tree ⟨i, fN, v, ro, p⟩ = P (i 0) (i 1) (i 2) := by kernel_rfl
theorem ran : ranR us (fun _ _ => .auto) rc 2 tree = true := by kernel_rfl
theorem fineT : fineR 2 rc tree = true := by kernel_rfl
theorem ok : RcOk (cxOf 2) rc := okR us_ok ran fineT okb fun i v ro p hρ hcap hpre => by rw [plain]; have q := hρ.hi; exact holds _ _ _ (q 0 _ rfl).1 (q 0 _ rfl).2 (hcap _ (mg 0 rfl)) (hpre _ (mg 0 rfl))
end CRMost44
namespace CRLeast44
def rc : Rc := ⟨8, [none], [.row [.int .u32] 1000000], [(.b .le .i64 (.v 0) (.c 64))], .tup [none, none], [.int .i64 (.f 182 (.v 1) (.v 0) (.c 0)), .int .i64 (.f 183 (.v 1) (.v 0) (.c 0))]⟩
theorem okb : rc.ok = true := by kernel_rfl
noncomputable def us : SMs := fun Γ ins n => smH (cxG n Γ ins) [] (smAnd 14 (libRbLeast Γ ins n) (smR (cxG n Γ ins) [CRDec.rc, CRCost6.rc, CRFree44.rc]))
theorem us_ok : SMsOk us := fun Γ ins n => qXu (tabsG n Γ ins) (qJp _) (smAnd_ok (libRbLeast_ok CRCost6.costC CRDec.decC Γ ins n) (qXm (tabsG n Γ ins) (qQp CRDec.okb (rc_n CRDec.ok) (qQp CRCost6.okb (rc_n CRCost6.ok) (qQp CRFree44.okb (rc_n CRFree44.ok) (qJs _))))))
def tree : TT (List E) :=
(.br (.b .le .i64 (.v 0) (.v 2))
 (.br (.b .le .i64 (.v 0) (.c 64))
 (.br (.nt (.f 187 (.v 1) (.v 0) (.c 0)))
 (.leaf [(.c 0), (.c 12)])
 (.br (.b .le .i64 (.c 1) (.f 187 (.v 1) (.v 0) (.c 0)))
 (.br (.nt (.b .le .i64 (.c 0) (.f 185 (.v 1) (.v 0) (.c 0))))
 (.leaf [(.c 0), (.c 10)])
 (.leaf [(.ite (.b .le .i64 (.c 0) (.f 185 (.v 1) (.v 0) (.c 0))) (.f 185 (.v 1) (.v 0) (.c 0)) (.c 0)), (.c 0)]))
 (.bad 200)))
 (.bad 200))
 (.bad 200))
def P (n0 c0 r0 : Int) : Prop :=
 (((qQz (decide (n0 ≤ r0))) ≠ 0 →
  (((qQz (decide (n0 ≤ 64))) ≠ 0 →
   (((qQz ((frZ c0 n0) == 0)) ≠ 0 →
    (0 : Int) = (blN c0 n0) ∧ (12 : Int) = (blE c0 n0) ∧ True) ∧ ((qQz ((frZ c0 n0) == 0)) = 0 →
    (((qQz (decide (1 ≤ (frZ c0 n0)))) ≠ 0 →
     (((qQz ((qQz (decide (0 ≤ (lstZ c0 n0 0)))) == 0)) ≠ 0 →
      (0 : Int) = (blN c0 n0) ∧ (10 : Int) = (blE c0 n0) ∧ True) ∧ ((qQz ((qQz (decide (0 ≤ (lstZ c0 n0 0)))) == 0)) = 0 →
      ((iteZ (qQz (decide (0 ≤ (lstZ c0 n0 0)))) (lstZ c0 n0 0) 0) : Int) = (blN c0 n0) ∧ (0 : Int) = (blE c0 n0) ∧ True))) ∧ ((qQz (decide (1 ≤ (frZ c0 n0)))) = 0 →
     False))))) ∧ ((qQz (decide (n0 ≤ 64))) = 0 →
   False))) ∧ ((qQz (decide (n0 ≤ r0))) = 0 →
  False))
theorem holds (n0 c0 r0 : Int) (l_n0 : 0 ≤ n0) (u_n0 : n0 ≤ 1000000) (h_n0 : n0 ≤ r0) (h_pre0 : qQz (decide (n0  ≤  64)) ≠ 0) : P n0 c0 r0 := by
 unfold P
 simp only [nrm, nro, Int.reduceEq, Int.reduceNeg, reduceIte]
 have hn : n0 ≤ 64 := by simpa [qQz] using h_pre0
 have hb := frZ_bd c0 n0
 refine ⟨h_n0, by omega, fun h => ?_, fun h => ⟨by omega, fun g => ?_, fun g => ?_⟩⟩
 ·have h : frZ c0 n0 = 0 := by simpa using h
  have h' : ¬frZ c0 n0 = 1 := by omega
  simp [blN, blE, h']
 ·have h' : frZ c0 n0 = 1 := by omega
  have g' : ¬0 ≤ lstZ c0 n0 0 := by simpa using g
  simp [blN, blE, h', g']
 ·have h' : frZ c0 n0 = 1 := by omega
  have g' : 0 ≤ lstZ c0 n0 0 := by simpa using g
  simp [blN, blE, h', g', iteZ, qQz]
theorem plain (i v ro p) : statR 2 rc tree ⟨i, fN, v, ro, p⟩ = P (i 0) (i 1) (i 2) := by kernel_rfl
theorem ran : ranR us (fun _ _ => .auto) rc 2 tree = true := by kernel_rfl
theorem fineT : fineR 2 rc tree = true := by kernel_rfl
theorem ok : RcOk (cxOf 2) rc := okR us_ok ran fineT okb fun i v ro p hρ hcap hpre => by rw [plain]; have q := hρ.hi; exact holds _ _ _ (q 0 _ rfl).1 (q 0 _ rfl).2 (hcap _ (mg 0 rfl)) (hpre _ (mg 0 rfl))
end CRLeast44
namespace CAwake44
def rc : Rc := ⟨4, [], [], [], .one, [.bool (.c 1)]⟩
theorem okb : rc.ok = true := by kernel_rfl
noncomputable def us : SMs := fun Γ ins n => smH (cxG n Γ ins) [] (smAnd 5 (libBMost Γ ins n) (smAnd 7 (libBLeast Γ ins n) (smR (cxG n Γ ins) [CGNext.rc, COCost.rc, CCDec.rc])))
theorem us_ok : SMsOk us := fun Γ ins n => qXu (tabsG n Γ ins) (qJp _) (smAnd_ok (libBMost_ok CGNext.nextC COCost.costC CCDec.decC Γ ins n) (smAnd_ok (libBLeast_ok CGNext.nextC COCost.costC CCDec.decC Γ ins n) (qXm (tabsG n Γ ins) (qQp CGNext.okb (rc_n CGNext.ok) (qQp COCost.okb (rc_n COCost.ok) (qQp CCDec.okb (rc_n CCDec.ok) (qJs _)))))))
def tree : TT (List E) :=
(.br (.b .eq .i64 (.f 180 (.f 11 (.c 2415919106) (.f 11 (.c 1210124288) (.f 11 (.c 2885681152) (.c 0) (.c 0)) (.c 0)) (.c 0)) (.c 3) (.c 0)) (.c 5))
 (.br (.b .eq .i64 (.f 181 (.f 11 (.c 2415919106) (.f 11 (.c 1210124288) (.f 11 (.c 2885681152) (.c 0) (.c 0)) (.c 0)) (.c 0)) (.c 3) (.c 0)) (.c 0))
 (.br (.b .eq .i64 (.f 182 (.f 11 (.c 2415919106) (.f 11 (.c 1210124288) (.f 11 (.c 2885681152) (.c 0) (.c 0)) (.c 0)) (.c 0)) (.c 3) (.c 0)) (.c 4))
 (.br (.b .eq .i64 (.f 183 (.f 11 (.c 2415919106) (.f 11 (.c 1210124288) (.f 11 (.c 2885681152) (.c 0) (.c 0)) (.c 0)) (.c 0)) (.c 3) (.c 0)) (.c 0))
 (.leaf [(.b .eq .i64 (.f 181 (.f 11 (.c 2617245696) (.c 0) (.c 0)) (.c 1) (.c 0)) (.c 12))])
 (.leaf [(.c 0)]))
 (.leaf [(.c 0)]))
 (.leaf [(.c 0)]))
 (.leaf [(.c 0)]))
def P : Prop :=
 (((qQz ((bmN (qQq 2415919106 (qQq 1210124288 (qQq 2885681152 0))) 3) == 5)) ≠ 0 →
  (((qQz ((bmE (qQq 2415919106 (qQq 1210124288 (qQq 2885681152 0))) 3) == 0)) ≠ 0 →
   (((qQz ((blN (qQq 2415919106 (qQq 1210124288 (qQq 2885681152 0))) 3) == 4)) ≠ 0 →
    (((qQz ((blE (qQq 2415919106 (qQq 1210124288 (qQq 2885681152 0))) 3) == 0)) ≠ 0 →
     (((qQz ((bmE (qQq 2617245696 0) 1) == 12)) : Int) ≠ 0 ↔ (1 : Int) ≠ 0) ∧ True) ∧ ((qQz ((blE (qQq 2415919106 (qQq 1210124288 (qQq 2885681152 0))) 3) == 0)) = 0 →
     ((0 : Int) ≠ 0 ↔ (1 : Int) ≠ 0) ∧ True))) ∧ ((qQz ((blN (qQq 2415919106 (qQq 1210124288 (qQq 2885681152 0))) 3) == 4)) = 0 →
    ((0 : Int) ≠ 0 ↔ (1 : Int) ≠ 0) ∧ True))) ∧ ((qQz ((bmE (qQq 2415919106 (qQq 1210124288 (qQq 2885681152 0))) 3) == 0)) = 0 →
   ((0 : Int) ≠ 0 ↔ (1 : Int) ≠ 0) ∧ True))) ∧ ((qQz ((bmN (qQq 2415919106 (qQq 1210124288 (qQq 2885681152 0))) 3) == 5)) = 0 →
  ((0 : Int) ≠ 0 ↔ (1 : Int) ≠ 0) ∧ True))
theorem holds : P := by
 unfold P
 obtain ⟨h1, h2, h3, h4, h5⟩ := aw44
 simp only [show qQq 2415919106 (qQq 1210124288 (qQq 2885681152 0)) = qB from rfl, show qQq 2617245696 0 = qC from rfl, h1, h2, h3, h4, h5]
 simp [qQz]
theorem plain (i v ro p) : statR 2 rc tree ⟨i, fN, v, ro, p⟩ = P  := by kernel_rfl
theorem ran : ranR us (fun _ _ => .auto) rc 2 tree = true := by kernel_rfl
theorem fineT : fineR 2 rc tree = true := by kernel_rfl
theorem ok : RcOk (cxOf 2) rc := okR us_ok ran fineT okb fun i v ro p hρ hcap hpre => by rw [plain]; have q := hρ.hi; exact holds
end CAwake44
end Go.Proofs.YtppkkgicidagmaaDoor
