/-
  What functions of the program answer, as numbers of what they are handed: their runs by the engine, the plain statements behind them. No condition.
-/
import Derived.Test.YtdnkgacjibjlhaaGreatDoorKb
import Derived.Test.YtdnkgacjibjlhaaGreatDoorGab
import Derived.Test.YtdnkgacjibjlhaaGreatDoorGp3
import Derived.Test.YtdnkgacjibjlhaaGreatDoorGib
import Derived.Test.YtdnkgacjibjlhaaGreatDoorGp5
set_option linter.unusedVariables false
set_option linter.unusedSimpArgs false
set_option maxRecDepth 100000
namespace Go.Proofs.YtdnkgacjibjlhaaGreatDoor
open Go.Eng Go.RowKit
namespace CGNext
def rc : Rc := ⟨75, [none, none], [.row [.int .u32] 1000000, .int .i64], [], .one, [.row [.int .i64] 3 (.f 163 (.v 2) (.v 0) (.v 1)) (.f 162 (.v 2) (.v 0) (.v 1))]⟩
theorem okb : rc.ok = true := by kernel_rfl
noncomputable def us : SMs := fun Γ ins n => smH (cxG n Γ ins) [] (smR (cxG n Γ ins) [CCDec.rc])
theorem us_ok : SMsOk us := fun Γ ins n => qZs (tabsG n Γ ins) (qZy _) (qZp (tabsG n Γ ins) (qQh CCDec.okb (rc_n CCDec.ok) (qZv _)))
def Q0 : E := (tR (.v 2) (.v 1))
def Q1 : E := (.w .u32 Q0)
def Q2 : E := (.cl 1000 (-32768) 65535)
def Q3 : E := (.cl 1004 (-32768) 65535)
def Q4 : E := (tl (.v 0) Q3)
def Q5 : E := (tC Q3 (.c 0))
def Q6 : E := (tp (.v 1) (.c 1))
def Q7 : E := (t6 Q6)
def Q8 : E := (tl (.v 0) Q7)
def Q9 : E := (.nt Q8)
def Q10 : E := (tC Q7 (.c 0))
def Q11 : E := (tk Q7 Q3)
def Q12 : E := (te Q3 Q7)
def Q13 : E := (tC Q7 Q5)
def Q14 : E := (te Q7 Q3)
def Q15 : E := (tC Q3 Q10)
def tree : TT (List E) :=
 (.br (tk (.v 1) (.c 0)) (.leaf [(.c 0), (.c 0)]) (.br (tl (.v 0) (.v 1)) (.leaf [(.c 0), (.c 0)]) (.br (tl (.c 0) (.v 1)) (.br (tk (.v 1) (.v 0)) (.new 1000 (.f 67 Q1 (.c 0) (.c 0)) (.new 1001 (.f 67 Q1 (.c 1) (.c 0)) (.new 1002 (.f 67 Q1 (.c 2) (.c 0)) (.new 1003 (.f 67 Q1 (.c 3) (.c 0)) (.new 1004 (.f 67 Q1 (.c 4) (.c 0)) (.new 1005 (.f 67 Q1 (.c 5) (.c 0)) (.br (te Q2 (.c 0)) (.leaf [(.c 0), (.c 0)]) (.br (te Q2 (.c 41)) (.leaf [(.c 0), (.c 0)]) (.br (te Q2 (.c 43)) (.leaf [(.c 0), (.c 0)]) (.br (te Q2 (.c 39)) (.br Q4 (.leaf [(.c 0), (.c 0)]) (.leaf [(.c 1), Q5])) (.br (te Q2 (.c 40)) (.br Q4 (.leaf [(.c 0), (.c 0)]) (.leaf [(.c 1), Q5])) (.br (te Q2 (.c 36)) (.br Q4 (.br Q9 (.leaf [(.c 1), Q10]) (.leaf [(.c 0), (.c 0)])) (.br Q8 (.leaf [(.c 1), Q5]) (.br Q11 (.br Q12 (.leaf [(.c 1),
 Q10]) (.leaf [(.c 2), Q13])) (.br Q14 (.leaf [(.c 1), Q5]) (.leaf [(.c 2), Q15]))))) (.br (te Q2 (.c 37)) (.br Q4 (.br Q9 (.leaf [(.c 1), Q10]) (.leaf [(.c 0), (.c 0)])) (.br Q8 (.leaf [(.c 1), Q5]) (.br Q11 (.br Q12 (.leaf [(.c 1), Q10]) (.leaf [(.c 2), Q13])) (.br Q14 (.leaf [(.c 1), Q5]) (.leaf [(.c 2), Q15]))))) (.br (te Q2 (.c 38)) (.br Q4 (.br Q9 (.leaf [(.c 1), Q10]) (.leaf [(.c 0), (.c 0)])) (.br Q8 (.leaf [(.c 1), Q5]) (.br Q11 (.br Q12 (.leaf [(.c 1), Q10]) (.leaf [(.c 2), Q13])) (.br Q14 (.leaf [(.c 1), Q5]) (.leaf [(.c 2), Q15]))))) (.br Q8 (.leaf [(.c 0), (.c 0)]) (.leaf [(.c 1), Q10])))))))))))))))) (.bad 200)) (.bad 200))))
def sq0 (a y4 b c : Int) : Prop := (Pb (PL a y4) (Pb (Pe (PL a (W6 (b + 1))) 0) ((1 : Int) = (nxN c a b) ∧ qQy [.int .i64] (kZ (W6 (b + 1)) 0) (nxZ c a b) 1 ∧ True) ((0 : Int) = (nxN c a b) ∧ qQy [.int .i64] 0 (nxZ c a b) 0 ∧ True)) (Pb (PL a (W6 (b + 1))) ((1 : Int) = (nxN c a b) ∧ qQy [.int .i64] (kZ y4 0) (nxZ c a b) 1 ∧ True) (Pb (Pl (W6 (b + 1)) y4) (Pb (Pe y4 (W6 (b + 1))) ((1 : Int) = (nxN c a b) ∧ qQy [.int .i64] (kZ (W6 (b + 1)) 0) (nxZ c a b) 1 ∧ True) ((2 : Int) = (nxN c a b) ∧ qQy [.int .i64] (kZ (W6 (b + 1)) (kZ y4 0)) (nxZ c a b) 2 ∧ True)) (Pb (Pe (W6 (b + 1)) y4) ((1 : Int) = (nxN c a b) ∧ qQy [.int .i64] (kZ y4 0) (nxZ c a b) 1 ∧ True) ((2 : Int) = (nxN c a b) ∧ qQy [.int .i64] (kZ y4 (kZ (W6 (b + 1)) 0)) (nxZ c a b) 2 ∧ True)))))
def P (a b c d : Int) : Prop :=
 (Pb (Pl b 0) ((0 : Int) = (nxN c a b) ∧ qQy [.int .i64] 0 (nxZ c a b) 0 ∧ True) (Pb (PL a b) ((0 : Int) = (nxN c a b) ∧ qQy [.int .i64] 0 (nxZ c a b) 0 ∧ True) (Pm (PL 0 b) (Pm (Pl b a) (Pn (decZ (U3 (rdZ c b)) 0) (-32768) 65535 fun y0 => Pn (decZ (U3 (rdZ c b)) 1) (-32768) 65535 fun y1 => Pn (decZ (U3 (rdZ c b)) 2) (-32768) 65535 fun y2 => Pn (decZ (U3 (rdZ c b)) 3) (-32768) 65535 fun y3 => Pn (decZ (U3 (rdZ c b)) 4) (-32768) 65535 fun y4 => Pn (decZ (U3 (rdZ c b)) 5) (-32768) 65535 fun y5 => (Pb (Pe y0 0) ((0 : Int) = (nxN c a b) ∧ qQy [.int .i64] 0 (nxZ c a b) 0 ∧ True) (Pb (Pe y0 41) ((0 : Int) = (nxN c a b) ∧ qQy [.int .i64] 0 (nxZ c a b) 0 ∧ True) (Pb (Pe y0 43) ((0 : Int) = (nxN c a b) ∧ qQy [.int .i64] 0 (nxZ c a b) 0 ∧ True) (Pb (Pe y0 39) (Pb (PL a y4) ((0 : Int) =
 (nxN c a b) ∧ qQy [.int .i64] 0 (nxZ c a b) 0 ∧ True) ((1 : Int) = (nxN c a b) ∧ qQy [.int .i64] (kZ y4 0) (nxZ c a b) 1 ∧ True)) (Pb (Pe y0 40) (Pb (PL a y4) ((0 : Int) = (nxN c a b) ∧ qQy [.int .i64] 0 (nxZ c a b) 0 ∧ True) ((1 : Int) = (nxN c a b) ∧ qQy [.int .i64] (kZ y4 0) (nxZ c a b) 1 ∧ True)) (Pb (Pe y0 36) (sq0 a y4 b c) (Pb (Pe y0 37) (sq0 a y4 b c) (Pb (Pe y0 38) (sq0 a y4 b c) (Pb (PL a (W6 (b + 1))) ((0 : Int) = (nxN c a b) ∧ qQy [.int .i64] 0 (nxZ c a b) 0 ∧ True) ((1 : Int) = (nxN c a b) ∧ qQy [.int .i64] (kZ (W6 (b + 1)) 0) (nxZ c a b) 1 ∧ True)))))))))))))))
set_option maxHeartbeats 4000000 in
theorem holds (n0 p1 c0 r0 : Int) (l_n0 : 0 ≤ n0) (u_n0 : n0 ≤ 1000000) (l_p1 : -9223372036854775808 ≤ p1) (u_p1 : p1 ≤ 9223372036854775807) (h_n0 : n0 ≤ r0) : P n0 p1 c0 r0 := by
 delta P sq0 Pb Pm Pn PL Pl Pe W6 U3 kZ
 simp only [nrm, Int.reduceEq, Int.reduceNeg, reduceIte]
 have k0 : nxL c0 n0 p1 = [] → (0 : Int) = nxN c0 n0 p1 ∧ qQy [.int .i64] 0 (nxZ c0 n0 p1) 0 := fun h => nx_say h rfl rfl
 refine ⟨fun h => k0 (nxL_out (.inl h)), fun h1 => ⟨fun h => k0 (nxL_out (.inr h)), fun h2 => ⟨fun _ => ⟨fun _ => ?_, fun h => by omega⟩, fun h => by omega⟩⟩⟩
 intro y0 e0 _ y1 _ _ y2 _ _ y3 _ _ y4 e4 _ y5 _ _
 have ew : IntKind.wrap .i64 (p1 + 1) = p1 + 1 := w64 (by omega) (by omega)
 rw [ew]
 have hL := nxL_in (by omega) h2 e0 e4
 clear e0 e4
 have one : (y0 = 39 ∨ y0 = 40) → (n0 ≤ y4 → (0 : Int) = nxN c0 n0 p1 ∧ qQy [.int .i64] 0 (nxZ c0 n0 p1) 0) ∧ (y4 < n0 → (1 : Int) = nxN c0 n0 p1 ∧ qQy [.int .i64] (qQq y4 0) (nxZ c0 n0 p1) 1) := fun h =>
  ⟨fun g => k0 (by rw [hL, nxC_1 h, if_neg (by omega)]), fun g => nx_say (by rw [hL, nxC_1 h, if_pos g]) rfl (nx_z1 _).symm⟩
 refine ⟨fun h => k0 (by rw [hL, nxC_0 (by omega)]), fun a0 => ⟨fun h => k0 (by rw [hL, nxC_0 (by omega)]), fun a1 => ⟨fun h => k0 (by rw [hL, nxC_0 (by omega)]), fun a2 => ⟨fun h => one (by omega), fun a3 => ⟨fun h => one (by omega), fun a4 => ⟨fun h => nx_two (by rw [hL, nxC_2 (by omega)]), fun a5 => ⟨fun h => nx_two (by rw [hL, nxC_2 (by omega)]), fun a6 => ⟨fun h => nx_two (by rw [hL, nxC_2 (by omega)]), fun a7 => ?_⟩⟩⟩⟩⟩⟩⟩⟩
 have h3 := nxC_3 (y0 := y0) (y4 := y4) (n := n0) (p := p1) (by omega) (by omega) (by omega)
 exact ⟨fun g => k0 (by rw [hL, h3, if_neg (by omega)]), fun g => nx_say (by rw [hL, h3, if_pos g]) rfl (nx_z1 _).symm⟩
theorem plain (i v ro p) : statR 2 rc tree ⟨i, fN, v, ro, p⟩ = P (i 0) (i 1) (i 2) (i 3) := by kernel_rfl
theorem ran : ranR us (fun f _ => if [49, 103, 47, 35, 70, 94].contains f then .unroll 400 else .auto) rc 2 tree = true := by kernel_rfl
theorem fineT : fineR 2 rc tree = true := by kernel_rfl
theorem ok : RcOk (cxOf 2) rc := okR us_ok ran fineT okb fun i v ro p hρ hcap hpre => by rw [plain]; have q := hρ.hi; exact holds _ _ _ _ (q 0 _ rfl).1 (q 0 _ rfl).2 (q 1 _ rfl).1 (q 1 _ rfl).2 (hcap _ (mg 0 rfl))
theorem nextC (n : Nat) (Γ : List (Int × Int)) (ins : List InD) : NextC (cxG n Γ ins) 75 3 := nextC_of (tabsG n Γ ins) (rc_n ok) (fun _ _ _ => rfl) (fun _ _ _ => rfl)
end CGNext
namespace CSPlaces
def rc : Rc := ⟨17, [none], [.row [.int .u32] 1000000], [(.b .le .i64 (.v 0) (.c 64))], .one, [.row [.int .i64] 3 (.f 172 (.v 1) (.v 0) (.c 0)) (.f 171 (.v 1) (.v 0) (.c 0))]⟩
theorem okb : rc.ok = true := by kernel_rfl
noncomputable def us : SMs := fun Γ ins n => smH (cxG n Γ ins) [] (qYj 37 (libGReach Γ ins n) (smR (cxG n Γ ins) [CCDec.rc, CGNext.rc]))
theorem us_ok : SMsOk us := fun Γ ins n => qZs (tabsG n Γ ins) (qZy _) (qZg (libGReach_ok CGNext.nextC Γ ins n) (qZp (tabsG n Γ ins) (qQh CCDec.okb (rc_n CCDec.ok) (qQh CGNext.okb (rc_n CGNext.ok) (qZv _)))))
def Q0 : E := (.cl 1000 0 4611686018427387904)
def Q1 : E := (tp Q0 (.c 1))
def Q2 : E := (tl Q1 (.c 4611686018427387904))
def Q3 : E := (.cl 1002 0 1000000)
def Q4 : E := (tR (.v 1) Q0)
def Q5 : E := (.w .u32 Q4)
def Q6 : E := (tp Q3 (.c 1))
def Q7 : E := (tl Q6 (.c 1000000))
def tree : TT (List E) :=
 (.br (tl (.v 0) (.v 2)) (.br (tl (.v 0) (.c 64)) (.loop ⟨1000, [some (0, 4611686018427387904), none, some (0, 1000000)], [(.c 0), (.c 0), (.c 0)], 1010⟩ (.br (tk Q0 (.v 0)) (.br (.nt (tR (.f 164 (.v 1) (.v 0) (tC (.c 0) (tC (.c (-1)) (.c 0)))) Q0)) (.br Q2 (.back [Q1, (.v 1001), Q3]) (.bad 303)) (.new 1004 (.f 67 Q5 (.c 0) (.c 0)) (.new 1005 (.f 67 Q5 (.c 1) (.c 0)) (.new 1006 (.f 67 Q5 (.c 2) (.c 0)) (.new 1007 (.f 67 Q5 (.c 3) (.c 0)) (.new 1008 (.f 67 Q5 (.c 4) (.c 0)) (.new 1009 (.f 67 Q5 (.c 5) (.c 0)) (.br (.nt (.ite (te (.cl 1004 (-32768) 65535) (.c 42)) (.ite (te (.cl 1005 (-32768) 65535) (.c 0)) (.ite (te (.cl 1006 (-32768) 65535) (.c 0)) (.ite (te (.cl 1007 (-32768) 65535) (.c 0)) (te (.cl 1008 (-32768) 65535) (.c 0)) (.c 0)) (.c 0)) (.c 0)) (.c 0))) (.br Q7 (.br Q2 (.br Q7
 (.back [Q1, (.f 14 (.v 1001) Q3 Q0), Q6]) (.bad 303)) (.bad 303)) (.bad 200)) (.br Q2 (.back [Q1, (.v 1001), Q3]) (.bad 303)))))))))) (.exit 0)) (.leaf [Q3, (.v 1001)])) (.bad 200)) (.bad 200))
def P (a b c : Int) : Prop :=
 (Pm (PL a c) (Pm (PL a 64) (∃ I1000 : Int → Int → Int → Nat → Prop, (∃ m, I1000 0 0 0 m) ∧ ∀ y0 y1 y2 : Int, ∀ m0, ((0 ≤ y0 ∧ y0 ≤ 4611686018427387904) ∧ True ∧ (0 ≤ y2 ∧ y2 ≤ 1000000) ∧ True) → I1000 y0 y1 y2 m0 → (Pb (Pl y0 a) (Pb (Pe (rdZ (gfmZ b a (kZ 0 (kZ (-1) 0))) y0) 0) (Pm (PL (y0 + 1) 4611686018427387904) (∃ m', m' < m0 ∧ I1000 (y0 + 1) y1 y2 m')) (Pn (decZ (U3 (rdZ b y0)) 0) (-32768) 65535 fun y4 => Pn (decZ (U3 (rdZ b y0)) 1) (-32768) 65535 fun y5 => Pn (decZ (U3 (rdZ b y0)) 2) (-32768) 65535 fun y6 => Pn (decZ (U3 (rdZ b y0)) 3) (-32768) 65535 fun y7 => Pn (decZ (U3 (rdZ b y0)) 4) (-32768) 65535 fun y8 => Pn (decZ (U3 (rdZ b y0)) 5) (-32768) 65535 fun y9 => (Pb (Pe (iteZ (Pe y4 42) (iteZ (Pe y5 0) (iteZ (Pe y6 0) (iteZ (Pe y7 0) (Pe y8 0) 0) 0) 0) 0) 0) (Pm (PL (y2 + 1)
 1000000) (Pm (PL (y0 + 1) 4611686018427387904) (Pm (PL (y2 + 1) 1000000) (∃ m', m' < m0 ∧ I1000 (y0 + 1) (updZ y1 y2 y0) (y2 + 1) m')))) (Pm (PL (y0 + 1) 4611686018427387904) (∃ m', m' < m0 ∧ I1000 (y0 + 1) y1 y2 m'))))) ((y2 : Int) = (plcN b a) ∧ qQy [.int .i64] y1 (plcZ b a) y2 ∧ True)))))
set_option maxHeartbeats 4000000 in
open Classical in
theorem holds (n0 c0 r0 : Int) (l_n0 : 0 ≤ n0) (u_n0 : n0 ≤ 1000000) (h_n0 : n0 ≤ r0) (h_pre0 : qQz (decide (n0  ≤  64)) ≠ 0) : P n0 c0 r0 := by
 delta P Pb Pm Pn PL Pl Pe U3 kZ
 simp only [nrm, nro, Int.reduceEq, Int.reduceNeg, reduceIte]
 have hn : n0 ≤ 64 := by simpa [qQz] using h_pre0
 have e2 : min n0.toNat 1000 = n0.toNat := by omega
 refine ⟨h_n0, hn, ?_⟩
 refine ⟨fun p q l m => (0 ≤ p ∧ p ≤ n0) ∧ Rw q (plcF c0 n0 p.toNat) ∧ l = (plcF c0 n0 p.toNat).length ∧ m = (n0 - p).toNat, ⟨_, ⟨by omega, by omega⟩, by simpa [plcF] using Rw.nil 0, by simp [plcF], rfl⟩, ?_⟩
 rintro p q l m ⟨⟨p8, p9⟩, ⟨l0, l1⟩⟩ ⟨⟨p0, p1⟩, hR, hl, rfl⟩
 obtain ⟨x, rfl⟩ := Int.eq_ofNat_of_zero_le p0
 rw [Int.toNat_natCast] at hR hl
 have hll := plcF_len c0 n0 x
 have hnx := qKq (c := c0) (n := n0) (p := x)
 have ex : ((x : Int) + 1).toNat = x + 1 := by omega
 refine ⟨fun plt => ?_, fun pge => ?_⟩
 ·have hr := gfm_0 (c := c0) (by omega : n0 ≤ 1000) p0 plt
  rw [Int.toNat_natCast] at hr
  refine ⟨fun h0 => ?_, fun h0 => ?_⟩
  ·rw [if_neg fun g => hr.2 g.1 h0, List.append_nil] at hnx
   exact ⟨by omega, _, by omega, ⟨by omega, by omega⟩, by rw [ex, hnx]; exact hR, by rw [ex, hnx]; exact hl, rfl⟩
  ·rintro y0 e0 - y1 e1 - y2 e2' - y3 e3 - y4 e4 - y5 - -
   have hb : ∀ b : Int, (if y0 = 42 then (if y1 = 0 then (if y2 = 0 then (if y3 = 0 then b else 0) else 0) else 0) else 0) = if y0 = 42 then b else 0 := fun b => by
    by_cases g : y0 = 42
    ·obtain ⟨d1, d2, d3, d4⟩ := dec_nop (e0.symm.trans g)
     rw [e1, d1, e2', d2, e3, d3]
     simp
    ·simp [g]
   rw [hb]
   have hz : (if y0 = 42 then qQz (y4 == 0) else 0) = 0 ↔ y0 ≠ 42 := by
    by_cases g : y0 = 42
    ·have := (dec_nop (e0.symm.trans g)).2.2.2
     rw [if_pos g, e4, this]
     simp [qQz, g]
    ·simp [g]
   rw [hz]
   refine ⟨fun h => ?_, fun h => ?_⟩
   ·rw [if_pos ⟨hr.1 h0, by rw [← e0]; exact h⟩] at hnx
    refine ⟨by omega, by omega, by omega, _, ?_, ⟨by omega, by omega⟩, ?_, by rw [ex, hnx, List.length_append, List.length_singleton, hl]; rfl, rfl⟩
    ·omega
    ·rw [ex, hnx]; exact hR.snoc hl
   ·rw [if_neg fun g => h (by rw [e0]; exact g.2), List.append_nil] at hnx
    exact ⟨by omega, _, by omega, ⟨by omega, by omega⟩, by rw [ex, hnx]; exact hR, by rw [ex, hnx]; exact hl, rfl⟩
 ·have e : (x : Int) = n0 := by omega
  subst e
  unfold plcN plcZ
  rw [e2, Int.toNat_natCast]
  refine ⟨hl, ?_⟩
  exact hR.eq (by rw [hl]; exact Int.le_refl _)
theorem plain (i v ro p) : statR 2 rc tree ⟨i, fN, v, ro, p⟩ = P (i 0) (i 1) (i 2) := by kernel_rfl
theorem ran : ranR us (fun _ _ => .auto) rc 2 tree = true := by kernel_rfl
theorem fineT : fineR 2 rc tree = true := by kernel_rfl
theorem ok : RcOk (cxOf 2) rc := okR us_ok ran fineT okb fun i v ro p hρ hcap hpre => by rw [plain]; have q := hρ.hi; exact holds _ _ _ (q 0 _ rfl).1 (q 0 _ rfl).2 (hcap _ (mg 0 rfl)) (hpre _ (mg 0 rfl))
end CSPlaces
end Go.Proofs.YtdnkgacjibjlhaaGreatDoor
