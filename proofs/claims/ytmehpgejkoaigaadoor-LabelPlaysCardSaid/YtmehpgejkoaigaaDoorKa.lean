/-
  What functions of the program answer, as numbers of what they are handed: their runs by the engine, the plain statements behind them. No condition.
-/
import Derived.Test.YtmehpgejkoaigaaDoorGab
import Derived.Test.YtmehpgejkoaigaaDoorGib
import Derived.Test.YtmehpgejkoaigaaDoorGp1
set_option linter.unusedVariables false
set_option linter.unusedSimpArgs false
set_option maxRecDepth 100000
namespace Go.Proofs.YtmehpgejkoaigaaDoor
open Go.Eng Go.RowKit
namespace CPIs
def rc : Rc := ⟨18, [none], [.str], [], .one, [.bool (.f 53 (.v 0) (.c 0) (.c 0))]⟩
theorem okb : rc.ok = true := by kernel_rfl
noncomputable def us : SMs := fun Γ ins n => smH (cxG n Γ ins) [] (smAnd 25 (libCon1 Γ ins n) (smAnd 26 (libTrim Γ ins n) (smR (cxG n Γ ins) [])))
theorem us_ok : SMsOk us := fun Γ ins n => qXr (tabsG n Γ ins) (qJn _) (smAnd_ok (libCon1_ok Γ ins n) (smAnd_ok (libTrim_ok Γ ins n) (qXg (tabsG n Γ ins) (qJo _))))
def Q0 : E := (tC (.c 0) (tC (.c 0) (.c 0)))
def Q1 : E := (.f 18 (tR (.v 0) (.c 1)) (.c 0) (.c 0))
def Q2 : E := (tC Q1 (.c 0))
def Q3 : E := (tC (.c 1) Q2)
def tree : TT (List E) :=
 (.br (.f 20 (.v 0) Q0 (.c 0)) (.leaf [(.c 0)]) (.br (tk (.c 24) (.f 21 (.v 0) (.c 0) (.c 0))) (.leaf [(.c 0)]) (.br (tl (.c 1) (.f 21 (.v 0) (.c 0) (.c 0))) (.br (te (.f 21 Q3 (.c 0) (.c 0)) (.c 1)) (.br (.nt (.f 51 (tC (.c 26) (tC (tC (.c 97) (tC (.c 98) (tC (.c 99) (tC (.c 100) (tC (.c 101) (tC (.c 102) (tC (.c 103) (tC (.c 104) (tC (.c 105) (tC (.c 106) (tC (.c 107) (tC (.c 108) (tC (.c 109) (tC (.c 110) (tC (.c 111) (tC (.c 112) (tC (.c 113) (tC (.c 114) (tC (.c 115) (tC (.c 116) (tC (.c 117) (tC (.c 118) (tC (.c 119) (tC (.c 120) (tC (.c 121) (tC (.c 122) (.c 0))))))))))))))))))))))))))) (.c 0))) (.f 22 Q3 (.c 0) (.c 0)) (.c 0))) (.leaf [(.c 0)]) (.leaf [(.f 20 (.f 52 (.v 0) (tC (.c 37) (tC (tC (.c 97) (tC (.c 98) (tC (.c 99) (tC (.c 100) (tC (.c 101) (tC (.c 102) (tC (.c 103) (tC
 (.c 104) (tC (.c 105) (tC (.c 106) (tC (.c 107) (tC (.c 108) (tC (.c 109) (tC (.c 110) (tC (.c 111) (tC (.c 112) (tC (.c 113) (tC (.c 114) (tC (.c 115) (tC (.c 116) (tC (.c 117) (tC (.c 118) (tC (.c 119) (tC (.c 120) (tC (.c 121) (tC (.c 122) (tC (.c 48) (tC (.c 49) (tC (.c 50) (tC (.c 51) (tC (.c 52) (tC (.c 53) (tC (.c 54) (tC (.c 55) (tC (.c 56) (tC (.c 57) (tC (.c 95) (.c 0)))))))))))))))))))))))))))))))))))))) (.c 0))) (.c 0)) Q0 (.c 0))])) (.bad 200)) (.bad 200))))
def P (a : Int) : Prop :=
 (Pb (seqZ a (kZ 0 (kZ 0 0))) (((0 : Int) ≠ 0 ↔ ((isZ a) : Int) ≠ 0) ∧ True) (Pb (Pl 24 (qQf a)) (((0 : Int) ≠ 0 ↔ ((isZ a) : Int) ≠ 0) ∧ True) (Pm (PL 1 (qQf a)) (Pm (Pe (qQf (kZ 1 (kZ (dropZ (rdZ a 1) 0) 0))) 1) (Pb (Pe (hasB (kZ 26 (kZ (kZ 97 (kZ 98 (kZ 99 (kZ 100 (kZ 101 (kZ 102 (kZ 103 (kZ 104 (kZ 105 (kZ 106 (kZ 107 (kZ 108 (kZ 109 (kZ 110 (kZ 111 (kZ 112 (kZ 113 (kZ 114 (kZ 115 (kZ 116 (kZ 117 (kZ 118 (kZ 119 (kZ 120 (kZ 121 (kZ 122 0)))))))))))))))))))))))))) 0)) (qQg (kZ 1 (kZ (dropZ (rdZ a 1) 0) 0)) 0)) 0) (((0 : Int) ≠ 0 ↔ ((isZ a) : Int) ≠ 0) ∧ True) ((((seqZ (trimZ a (kZ 37 (kZ (kZ 97 (kZ 98 (kZ 99 (kZ 100 (kZ 101 (kZ 102 (kZ 103 (kZ 104 (kZ 105 (kZ 106 (kZ 107 (kZ 108 (kZ 109 (kZ 110 (kZ 111 (kZ 112 (kZ 113 (kZ 114 (kZ 115 (kZ 116 (kZ 117 (kZ 118 (kZ 119 (kZ 120 (kZ
 121 (kZ 122 (kZ 48 (kZ 49 (kZ 50 (kZ 51 (kZ 52 (kZ 53 (kZ 54 (kZ 55 (kZ 56 (kZ 57 (kZ 95 0))))))))))))))))))))))))))))))))))))) 0))) (kZ 0 (kZ 0 0))) : Int) ≠ 0 ↔ ((isZ a) : Int) ≠ 0) ∧ True))))))
theorem holds (s0 : Int) : P s0 := by
 delta P Pb Pm PL Pl Pe kZ
 simp only [nrm, Int.reduceEq, Int.reduceNeg, reduceIte, sbyte_cut, slen_one]
 have hb := qKf s0 0
 have hl := qJv s0
 have hs := has_small small_code hb.1 hb.2
 have ht := trim_other (s := s0) other_code
 generalize qQj 26 _ = S at hs ⊢
 generalize trimZ s0 _ = T at ht ⊢
 simp only [seq_empty0, isZ_eq]
 unfold isName
 refine ⟨fun h => ?_, fun h => ⟨fun h2 => ?_, fun h2 => ⟨fun h3 => ⟨fun h4 => ?_, fun h4 => ?_⟩, fun h3 => ?_⟩⟩⟩
 ·intro g; omega
 ·intro g; omega
 ·intro g; exact (hs.2 g.2.2.1) h4
 ·have h5 := hs.1 h4
  refine (not_congr (not_congr ht)).trans ?_
  rw [Classical.not_not, Classical.not_not]
  exact ⟨fun g => ⟨h3, h2, h5, g⟩, fun g => g.2.2.2⟩
 ·omega
theorem plain (i v ro p) : statR 2 rc tree ⟨i, fN, v, ro, p⟩ = P (i 0) := by kernel_rfl
theorem ran : ranR us (fun _ _ => .auto) rc 2 tree = true := by kernel_rfl
theorem fineT : fineR 2 rc tree = true := by kernel_rfl
theorem ok : RcOk (cxOf 2) rc := okR us_ok ran fineT okb fun i v ro p hρ hcap hpre => by rw [plain]; have q := hρ.hi; exact holds _
end CPIs
namespace CLDef
def rk : Rk := ⟨6, [(0, 1000000), (0, 1000000), (-9223372036854775808, 9223372036854775807)], 6, [.ptr 0 0, .str (.v 5), .int .i64 (.v 2)], [.cells [.mp 1, .sl (.own 2) 2 (.c 0) (.v 1) none] 48 none, .map (.str) (.int .i64) (.v 3) (.v 0), .arr [.str, .int .i64] 55 (.v 4) (.v 1)], [(.b .le .i64 (.v 0) (.c 999999))], .int .i64 (.v 1000001), [.cells [.mp 1, .sl (.own 2) 2 (.c 0) (.v 1) none] 48 none, .map (.str) (.int .i64) (.v 1000002) (.v 1000000), .arr [.str, .int .i64] 55 (.v 4) (.v 1)], [.num (.b .padd .i64 (.v 0) (.ite (.f 53 (.v 5) (.c 0) (.c 0)) (.ite (.b .le .i64 (.c 0) (.f 26 (.v 3) (.v 0) (.v 5))) (.c 0) (.c 1)) (.c 0))), .num (.ite (.f 53 (.v 5) (.c 0) (.c 0)) (.ite (.b .le .i64 (.c 0) (.f 26 (.v 3) (.v 0) (.v 5))) (.c 9) (.c 0)) (.c 8)), .code [.str, .int .i64] (.ite (.ite (.f 53 (.v 5) (.c 0) (.c 0)) (.ite (.b .le .i64 (.c 0) (.f 26 (.v 3) (.v 0) (.v 5))) (.c 0) (.c 1)) (.c 0)) (.f 14 (.v 3) (.v 0) (.f 11 (.v 5) (.f 11 (.v 2) (.c 0) (.c 0)) (.c 0))) (.v 3)) (.b .padd .i64 (.v 0) (.ite (.f 53 (.v 5) (.c 0) (.c 0)) (.ite (.b .le .i64 (.c 0) (.f 26 (.v 3) (.v 0) (.v 5))) (.c 0) (.c 1)) (.c 0)))], []⟩
theorem okk : rk.ok = true := by kernel_rfl
theorem okh : rk.rh.ok = true := by kernel_rfl
noncomputable def us : SMs := fun Γ ins n => smH (cxG n Γ ins) [] (smR (cxG n Γ ins) [CPIs.rc])
theorem us_ok : SMsOk us := fun Γ ins n => qXr (tabsG n Γ ins) (qJn _) (qXg (tabsG n Γ ins) (qXq CPIs.okb (rc_n CPIs.ok) (qJo _)))
def tree : TT (List E) :=
(.br (.nt (.f 53 (.v 5) (.c 0) (.c 0)))
 (.leaf [(.v 0), (.c 8), (.v 3)])
 (.new 1000 (.ite (.b .le .i64 (.c 0) (.f 26 (.v 3) (.v 0) (.v 5))) (.w .i64 (.f 13 (.f 13 (.v 3) (.f 26 (.v 3) (.v 0) (.v 5)) (.c 0)) (.c 1) (.c 0))) (.c 0))
 (.br (.b .le .i64 (.c 0) (.f 26 (.v 3) (.v 0) (.v 5)))
 (.leaf [(.v 0), (.c 9), (.v 3)])
 (.br (.b .le .i64 (.v 0) (.c 999999))
 (.new 1001 (.ite (.b .le .i64 (.c 0) (.f 26 (.v 3) (.v 0) (.v 5))) (.v 0) (.b .padd .i64 (.v 0) (.c 1)))
 (.leaf [(.cl 1001 0 1000001), (.c 0), (.f 14 (.v 3) (.ite (.b .le .i64 (.c 0) (.f 26 (.v 3) (.v 0) (.v 5))) (.f 26 (.v 3) (.v 0) (.v 5)) (.v 0)) (.f 11 (.v 5) (.f 11 (.v 2) (.c 0) (.c 0)) (.c 0)))]))
 (.bad 200)))))
def P (n u p q uq s : Int) : Prop :=
 (((qQq ((isZ s) == 0)) ≠ 0 →
  (n : Int) = (n + (iteZ (isZ s) (iteZ (qQq (decide (0 ≤ (mfsZ q n s)))) 0 1) 0)) ∧ (8 : Int) = (iteZ (isZ s) (iteZ (qQq (decide (0 ≤ (mfsZ q n s)))) 9 0) 8) ∧ qJe [.str, .int .i64] q (iteZ (iteZ (isZ s) (iteZ (qQq (decide (0 ≤ (mfsZ q n s)))) 0 1) 0) (updZ q n (qQj s (qQj p 0))) q) (n + (iteZ (isZ s) (iteZ (qQq (decide (0 ≤ (mfsZ q n s)))) 0 1) 0)) ∧ True) ∧ ((qQq ((isZ s) == 0)) = 0 →
  ∀ y1000 : Int, y1000 = (iteZ (qQq (decide (0 ≤ (mfsZ q n s)))) (IntKind.wrap .i64 (rdZ (rdZ q (mfsZ q n s)) 1)) 0) → ((-9223372036854775808) ≤ y1000 ∧ y1000 ≤ 9223372036854775807) →
  (((qQq (decide (0 ≤ (mfsZ q n s)))) ≠ 0 →
   (n : Int) = (n + (iteZ (isZ s) (iteZ (qQq (decide (0 ≤ (mfsZ q n s)))) 0 1) 0)) ∧ (9 : Int) = (iteZ (isZ s) (iteZ (qQq (decide (0 ≤ (mfsZ q n s)))) 9 0) 8) ∧ qJe [.str, .int .i64] q (iteZ (iteZ (isZ s) (iteZ (qQq (decide (0 ≤ (mfsZ q n s)))) 0 1) 0) (updZ q n (qQj s (qQj p 0))) q) (n + (iteZ (isZ s) (iteZ (qQq (decide (0 ≤ (mfsZ q n s)))) 0 1) 0)) ∧ True) ∧ ((qQq (decide (0 ≤ (mfsZ q n s)))) = 0 →
   (((qQq (decide (n ≤ 999999))) ≠ 0 →
    ∀ y1001 : Int, y1001 = (iteZ (qQq (decide (0 ≤ (mfsZ q n s)))) n (n + 1)) → (0 ≤ y1001 ∧ y1001 ≤ 1000001) →
    (y1001 : Int) = (n + (iteZ (isZ s) (iteZ (qQq (decide (0 ≤ (mfsZ q n s)))) 0 1) 0)) ∧ (0 : Int) = (iteZ (isZ s) (iteZ (qQq (decide (0 ≤ (mfsZ q n s)))) 9 0) 8) ∧ qJe [.str, .int .i64] (updZ q (iteZ (qQq (decide (0 ≤ (mfsZ q n s)))) (mfsZ q n s) n) (qQj s (qQj p 0))) (iteZ (iteZ (isZ s) (iteZ (qQq (decide (0 ≤ (mfsZ q n s)))) 0 1) 0) (updZ q n (qQj s (qQj p 0))) q) (n + (iteZ (isZ s) (iteZ (qQq (decide (0 ≤ (mfsZ q n s)))) 0 1) 0)) ∧ True) ∧ ((qQq (decide (n ≤ 999999))) = 0 →
    False))))))
theorem holds (n u p q uq s : Int) (l_n : 0 ≤ n) (u_n : n ≤ 1000000) (l_u : 0 ≤ u) (u_u : u ≤ 1000000) (l_p : -9223372036854775808 ≤ p) (u_p : p ≤ 9223372036854775807) (h_pre0 : qQq (decide (n ≤ 999999)) ≠ 0) : P n u p q uq s := by
 unfold P
 simp only [nrm, Int.reduceEq, Int.reduceNeg, reduceIte] at h_pre0 ⊢
 rcases isZ_01 s with h | h
 ·rw [h]
  simp [qJe]
 ·rw [h]
  by_cases h2 : 0 ≤ mfsZ q n s
  ·simp [h2, qJe, qQq]
   try omega
  ·have h3 : mfsZ q n s < 0 := by omega
   simp [h2, h3, qJe, qQq]
   omega
theorem plain (i v ro p) : statH 2 rk tree ⟨i, fN, v, ro, p⟩ = P (i 0) (i 1) (i 2) (i 3) (i 4) (i 5) := by kernel_rfl
theorem ran : ranH us (fun _ _ => .auto) rk 2 tree = true := by kernel_rfl
theorem fineT : fineH 2 rk tree = true := by kernel_rfl
theorem ok : RhOk (cxOf 2) rk.rh := okH us_ok ran fineT (by kernel_rfl) okk fun i v ro p hρ hpre => by rw [plain]; have q := hρ.hi; exact holds _ _ _ _ _ _ (q 0 _ rfl).1 (q 0 _ rfl).2 (q 1 _ rfl).1 (q 1 _ rfl).2 (q 2 _ rfl).1 (q 2 _ rfl).2 (hpre _ (mg 0 rfl))
end CLDef
namespace CLUse
def rk : Rk := ⟨8, [(0, 1000000), (0, 1000000), (-9223372036854775808, 9223372036854775807)], 6, [.ptr 0 0, .str (.v 5), .int .i64 (.v 2)], [.cells [.mp 1, .sl (.own 2) 2 (.c 0) (.v 1) none] 48 none, .map (.str) (.int .i64) (.v 3) (.v 0), .arr [.str, .int .i64] 55 (.v 4) (.v 1)], [(.b .le .i64 (.v 1) (.c 999999))], .int .i64 (.v 1000001), [.cells [.mp 1, .sl (.own 3) 2 (.c 0) (.v 1000000) none] 48 none, .map (.str) (.int .i64) (.v 3) (.v 0), .gone, .arr [.str, .int .i64] 55 (.v 1000002) (.v 1000000)], [.num (.b .padd .i64 (.v 1) (.f 53 (.v 5) (.c 0) (.c 0))), .num (.ite (.f 53 (.v 5) (.c 0) (.c 0)) (.c 0) (.c 8)), .code [.str, .int .i64] (.ite (.f 53 (.v 5) (.c 0) (.c 0)) (.f 14 (.v 4) (.v 1) (.f 11 (.v 5) (.f 11 (.v 2) (.c 0) (.c 0)) (.c 0))) (.v 4)) (.b .padd .i64 (.v 1) (.f 53 (.v 5) (.c 0) (.c 0)))], []⟩
theorem okk : rk.ok = true := by kernel_rfl
theorem okh : rk.rh.ok = true := by kernel_rfl
noncomputable def us : SMs := fun Γ ins n => smH (cxG n Γ ins) [] (smR (cxG n Γ ins) [CPIs.rc])
theorem us_ok : SMsOk us := fun Γ ins n => qXr (tabsG n Γ ins) (qJn _) (qXg (tabsG n Γ ins) (qXq CPIs.okb (rc_n CPIs.ok) (qJo _)))
def tree : TT (List E) :=
(.br (.nt (.f 53 (.v 5) (.c 0) (.c 0)))
 (.leaf [(.v 1), (.c 8), (.v 4)])
 (.br (.b .le .i64 (.b .padd .i64 (.v 1) (.c 1)) (.c 1000000))
 (.leaf [(.b .padd .i64 (.v 1) (.c 1)), (.c 0), (.f 14 (.v 4) (.v 1) (.f 11 (.v 5) (.f 11 (.v 2) (.c 0) (.c 0)) (.c 0)))])
 (.bad 200)))
def P (n u p q uq s : Int) : Prop :=
 (((qQq ((isZ s) == 0)) ≠ 0 →
  (u : Int) = (u + (isZ s)) ∧ (8 : Int) = (iteZ (isZ s) 0 8) ∧ qJe [.str, .int .i64] uq (iteZ (isZ s) (updZ uq u (qQj s (qQj p 0))) uq) (u + (isZ s)) ∧ True) ∧ ((qQq ((isZ s) == 0)) = 0 →
  (((qQq (decide ((u + 1) ≤ 1000000))) ≠ 0 →
   ((u + 1) : Int) = (u + (isZ s)) ∧ (0 : Int) = (iteZ (isZ s) 0 8) ∧ qJe [.str, .int .i64] (updZ uq u (qQj s (qQj p 0))) (iteZ (isZ s) (updZ uq u (qQj s (qQj p 0))) uq) (u + (isZ s)) ∧ True) ∧ ((qQq (decide ((u + 1) ≤ 1000000))) = 0 →
   False))))
theorem holds (n u p q uq s : Int) (l_n : 0 ≤ n) (u_n : n ≤ 1000000) (l_u : 0 ≤ u) (u_u : u ≤ 1000000) (l_p : -9223372036854775808 ≤ p) (u_p : p ≤ 9223372036854775807) (h_pre0 : qQq (decide (u ≤ 999999)) ≠ 0) : P n u p q uq s := by
 unfold P
 simp only [nrm, Int.reduceEq, Int.reduceNeg, reduceIte] at h_pre0 ⊢
 rcases isZ_01 s with h | h
 ·rw [h]
  simp [qJe]
 ·rw [h]
  simp [qJe]
  omega
theorem plain (i v ro p) : statH 2 rk tree ⟨i, fN, v, ro, p⟩ = P (i 0) (i 1) (i 2) (i 3) (i 4) (i 5) := by kernel_rfl
theorem ran : ranH us (fun _ _ => .auto) rk 2 tree = true := by kernel_rfl
theorem fineT : fineH 2 rk tree = true := by kernel_rfl
theorem ok : RhOk (cxOf 2) rk.rh := okH us_ok ran fineT (by kernel_rfl) okk fun i v ro p hρ hpre => by rw [plain]; have q := hρ.hi; exact holds _ _ _ _ _ _ (q 0 _ rfl).1 (q 0 _ rfl).2 (q 1 _ rfl).1 (q 1 _ rfl).2 (q 2 _ rfl).1 (q 2 _ rfl).2 (hpre _ (mg 0 rfl))
end CLUse
namespace CLPlc
def rk : Rk := ⟨12, [(0, 1000000), (0, 1000000)], 5, [.ptr 0 0, .str (.v 4)], [.cells [.mp 1, .sl (.own 2) 2 (.c 0) (.v 1) none] 48 none, .map (.str) (.int .i64) (.v 2) (.v 0), .arr [.str, .int .i64] 55 (.v 3) (.v 1)], [], .tup [.int .i64 (.v 1000000), .bool (.v 1000001)], [.cells [.mp 1, .sl (.own 2) 2 (.c 0) (.v 1) none] 48 none, .map (.str) (.int .i64) (.v 2) (.v 0), .arr [.str, .int .i64] 55 (.v 3) (.v 1)], [.num (.ite (.b .le .i64 (.c 0) (.f 26 (.v 2) (.v 0) (.v 4))) (.w .i64 (.f 13 (.f 13 (.v 2) (.f 26 (.v 2) (.v 0) (.v 4)) (.c 0)) (.c 1) (.c 0))) (.c 0)), .bool (.b .le .i64 (.c 0) (.f 26 (.v 2) (.v 0) (.v 4)))], []⟩
theorem okk : rk.ok = true := by kernel_rfl
theorem okh : rk.rh.ok = true := by kernel_rfl
noncomputable def us : SMs := fun Γ ins n => smH (cxG n Γ ins) [] (smR (cxG n Γ ins) [])
theorem us_ok : SMsOk us := fun Γ ins n => qXr (tabsG n Γ ins) (qJn _) (qXg (tabsG n Γ ins) (qJo _))
def tree : TT (List E) :=
(.new 1000 (.ite (.b .le .i64 (.c 0) (.f 26 (.v 2) (.v 0) (.v 4))) (.w .i64 (.f 13 (.f 13 (.v 2) (.f 26 (.v 2) (.v 0) (.v 4)) (.c 0)) (.c 1) (.c 0))) (.c 0))
 (.leaf [(.cl 1000 (-9223372036854775808) 9223372036854775807), (.b .le .i64 (.c 0) (.f 26 (.v 2) (.v 0) (.v 4)))]))
def P (n u q uq s : Int) : Prop :=
 ∀ y1000 : Int, y1000 = (iteZ (qQq (decide (0 ≤ (mfsZ q n s)))) (IntKind.wrap .i64 (rdZ (rdZ q (mfsZ q n s)) 1)) 0) → ((-9223372036854775808) ≤ y1000 ∧ y1000 ≤ 9223372036854775807) →
 (y1000 : Int) = (iteZ (qQq (decide (0 ≤ (mfsZ q n s)))) (IntKind.wrap .i64 (rdZ (rdZ q (mfsZ q n s)) 1)) 0) ∧ (((qQq (decide (0 ≤ (mfsZ q n s)))) : Int) ≠ 0 ↔ ((qQq (decide (0 ≤ (mfsZ q n s)))) : Int) ≠ 0) ∧ True
theorem holds (n u q uq s : Int) (l_n : 0 ≤ n) (u_n : n ≤ 1000000) (l_u : 0 ≤ u) (u_u : u ≤ 1000000) : P n u q uq s := by
 unfold P
 intro y hy _
 exact ⟨hy, Iff.rfl, trivial⟩
theorem plain (i v ro p) : statH 2 rk tree ⟨i, fN, v, ro, p⟩ = P (i 0) (i 1) (i 2) (i 3) (i 4) := by kernel_rfl
theorem ran : ranH us (fun _ _ => .auto) rk 2 tree = true := by kernel_rfl
theorem fineT : fineH 2 rk tree = true := by kernel_rfl
theorem ok : RhOk (cxOf 2) rk.rh := okH us_ok ran fineT (by kernel_rfl) okk fun i v ro p hρ hpre => by rw [plain]; have q := hρ.hi; exact holds _ _ _ _ _ (q 0 _ rfl).1 (q 0 _ rfl).2 (q 1 _ rfl).1 (q 1 _ rfl).2
end CLPlc
namespace CLRes
def rk : Rk := ⟨10, [(0, 1000000), (0, 1000000)], 4, [.ptr 0 0], [.cells [.mp 1, .sl (.own 2) 2 (.c 0) (.v 1) none] 48 none, .map (.str) (.int .i64) (.v 2) (.v 0), .arr [.str, .int .i64] 55 (.v 3) (.v 1)], [], .tup [.sl (.own 3) 2 (.c 0) (.v 1000000) none, .str (.v 1000002), .int .i64 (.v 1000001)], [.cells [.mp 1, .sl (.own 2) 2 (.c 0) (.v 1) none] 48 none, .map (.str) (.int .i64) (.v 2) (.v 0), .arr [.str, .int .i64] 55 (.v 3) (.v 1), .arr [.int .i64, .int .i64] 50 (.v 1000003) (.v 1000000)], [.num (.ite (.b .lt .i64 (.f 150 (.v 2) (.v 0) (qZq [(.v 3), (.v 1)])) (.c 0)) (.v 1) (.c 0)), .num (.ite (.b .lt .i64 (.f 150 (.v 2) (.v 0) (qZq [(.v 3), (.v 1)])) (.c 0)) (.c 0) (.c 10)), .str (.ite (.b .lt .i64 (.f 150 (.v 2) (.v 0) (qZq [(.v 3), (.v 1)])) (.c 0)) (.f 11 (.c 0) (.f 11 (.c 0) (.c 0) (.c 0)) (.c 0)) (.f 13 (.f 13 (.v 3) (.f 150 (.v 2) (.v 0) (qZq [(.v 3), (.v 1)])) (.c 0)) (.c 0) (.c 0))), .code [.int .i64, .int .i64] (.f 151 (.v 2) (.v 0) (qZq [(.v 3), (.v 1)])) (.ite (.b .lt .i64 (.f 150 (.v 2) (.v 0) (qZq [(.v 3), (.v 1)])) (.c 0)) (.v 1) (.c 0))], []⟩
theorem okk : rk.ok = true := by kernel_rfl
theorem okh : rk.rh.ok = true := by kernel_rfl
noncomputable def us : SMs := fun Γ ins n => smH (cxG n Γ ins) [CLPlc.rk.rh] (smAnd 23 (libAs Γ ins n) (smR (cxG n Γ ins) []))
theorem us_ok : SMsOk us := fun Γ ins n => qXr (tabsG n Γ ins) (qZn CLPlc.okh (rh_n CLPlc.ok) (qJn _)) (smAnd_ok (libAs_ok Γ ins n) (qXg (tabsG n Γ ins) (qJo _)))
def Q0 : E := (.cl 1002 0 4611686018427387904)
def Q1 : E := (tR (.v 3) Q0)
def Q2 : E := (tR Q1 (.c 0))
def Q3 : E := (.f 26 (.v 2) (.v 0) Q2)
def Q4 : E := (tl (.c 0) Q3)
def Q5 : E := (.cl 1001 0 1000000)
def Q6 : E := (tp Q5 (.c 1))
def Q7 : E := (tl Q6 (.c 1000000))
def Q8 : E := (tp Q0 (.c 1))
def tree : TT (List E) :=
 (.loop ⟨1000, [none, some (0, 1000000), some (0, 4611686018427387904)], [(.c 0), (.c 0), (.c 0)], 1004⟩ (.br (tk Q0 (.v 1)) (.br (.nt Q4) (.exit 0) (.br Q7 (.br Q7 (.br (tl Q8 (.c 4611686018427387904)) (.back [(.f 14 (.v 1000) Q5 (tC (t6 (tR Q1 (.c 1))) (tC (.ite Q4 (t6 (tR (tR (.v 2) Q3) (.c 1))) (.c 0)) (.c 0)))), Q6, Q8]) (.bad 303)) (.bad 303)) (.bad 200))) (.exit 1)) (.br (te (.v 1004) (.c 0)) (.leaf [(.c 0), (.c 10), Q2, (.c 0)]) (.leaf [Q5, (.c 0), (tC (.c 0) (tC (.c 0) (.c 0))), (.v 1000)])))
def sL0 (c a d b z0 z2 z4 z6 : Int) : Prop := (z0 : Int) = (iteZ (Pl (lckZ c a (kZ d (kZ b 0))) 0) b 0) ∧ (z2 : Int) = (iteZ (Pl (lckZ c a (kZ d (kZ b 0))) 0) 0 10) ∧ qQk z4 = qQk (iteZ (Pl (lckZ c a (kZ d (kZ b 0))) 0) (kZ 0 (kZ 0 0)) (rdZ (rdZ d (lckZ c a (kZ d (kZ b 0)))) 0)) ∧ qJe [.int .i64, .int .i64] z6 (fixZ c a (kZ d (kZ b 0))) (iteZ (Pl (lckZ c a (kZ d (kZ b 0))) 0) b 0) ∧ True
def P (a b c d : Int) : Prop :=
 ∃ I1000 : Int → Int → Int → Nat → Prop, (∃ m, I1000 0 0 0 m) ∧ ∀ y0 y1 y2 : Int, ∀ m0, (True ∧ (0 ≤ y1 ∧ y1 ≤ 1000000) ∧ (0 ≤ y2 ∧ y2 ≤ 4611686018427387904) ∧ True) → I1000 y0 y1 y2 m0 → (Pb (Pl y2 b) (Pb (Pe (PL 0 (mfsZ c a (rdZ (rdZ d y2) 0))) 0) (Pb (Pe (0 : Int) 0) (sL0 c a d b 0 10 (rdZ (rdZ d y2) 0) 0) (sL0 c a d b y1 0 (kZ 0 (kZ 0 0)) y0)) (Pm (PL (y1 + 1) 1000000) (Pm (PL (y1 + 1) 1000000) (Pm (PL (y2 + 1) 4611686018427387904) (∃ m', m' < m0 ∧ I1000 (updZ y0 y1 (kZ (W6 (rdZ (rdZ d y2) 1)) (kZ (iteZ (PL 0 (mfsZ c a (rdZ (rdZ d y2) 0))) (W6 (rdZ (rdZ c (mfsZ c a (rdZ (rdZ d y2) 0))) 1)) 0) 0))) (y1 + 1) (y2 + 1) m'))))) (Pb (Pe (1 : Int) 0) (sL0 c a d b 0 10 (rdZ (rdZ d y2) 0) 0) (sL0 c a d b y1 0 (kZ 0 (kZ 0 0)) y0)))
theorem holds (n u q uq : Int) (l_n : 0 ≤ n) (u_n : n ≤ 1000000) (l_u : 0 ≤ u) (u_u : u ≤ 1000000) : P n u q uq := by
 delta P sL0 Pb Pm PL Pl Pe W6 kZ
 simp only [nrm, Int.reduceEq, Int.reduceNeg, reduceIte]
 refine ⟨fun y k i m => k = i ∧ 0 ≤ i ∧ i ≤ u ∧ m = (u - i).toNat ∧ (∀ j : Nat, (j : Int) < i → 0 ≤ mfsZ q n (rdZ (rdZ uq j) 0)) ∧ Rw y ((List.range i.toNat).map (fixF q n uq)), ⟨_, rfl, by omega, by omega, rfl, fun j hj => by omega, Rw.nil _⟩, ?_⟩
 rintro y k i m _ ⟨rfl, h0, h1, rfl, hI, hR⟩
 refine ⟨fun hi => ⟨fun hs => ?_, fun hs => ?_⟩, fun hi => ?_⟩
 ·have hf := lck_at (q := q) (n := n) (uq := uq) (u := u) (k := k.toNat) u_u (by omega) (by rw [Int.toNat_of_nonneg h0]; omega) (fun j hj => hI j (by omega))
  rw [Int.toNat_of_nonneg h0] at hf
  rw [hf, if_neg (by omega), if_neg (by omega), if_neg (by omega)]
  exact ⟨rfl, rfl, rfl, rowEq_nil _ _ _ (by omega)⟩
 ·refine ⟨fun _ => ⟨fun _ => ⟨fun _ => ⟨_, ?_, rfl, by omega, by omega, rfl, fun j hj => ?_, ?_⟩, fun h => by omega⟩, fun h => by omega⟩, fun h => by omega⟩
  ·omega
  ·by_cases e : (j : Int) = k
   ·rw [e]; omega
   ·exact hI j (by omega)
  ·have hs' : 0 ≤ mfsZ q n (rdZ (rdZ uq k) 0) := by omega
   rw [if_pos hs']
   exact fix_snoc h0 hR
 ·have hf := lck_no (q := q) (n := n) (uq := uq) (u := u) l_u u_u (fun j hj => hI j (by omega))
  rw [hf, if_pos (by decide), if_pos (by decide), if_pos (by decide)]
  refine ⟨by omega, rfl, rfl, ?_⟩
  rw [fix_eq]
  have e : k.toNat = u.toNat := by omega
  rw [e] at hR
  exact Go.Eng.Rw.eq hR (by rw [List.length_map, List.length_range]; omega)
theorem plain (i v ro p) : statH 2 rk tree ⟨i, fN, v, ro, p⟩ = P (i 0) (i 1) (i 2) (i 3) := by kernel_rfl
theorem ran : ranH us (fun _ _ => .auto) rk 2 tree = true := by kernel_rfl
theorem fineT : fineH 2 rk tree = true := by kernel_rfl
theorem ok : RhOk (cxOf 2) rk.rh := okH us_ok ran fineT (by kernel_rfl) okk fun i v ro p hρ hpre => by rw [plain]; have q := hρ.hi; exact holds _ _ _ _ (q 0 _ rfl).1 (q 0 _ rfl).2 (q 1 _ rfl).1 (q 1 _ rfl).2
end CLRes
namespace CRIs
def rc : Rc := ⟨19, [none], [.str], [], .one, [.bool (.f 53 (.v 0) (.c 0) (.c 0))]⟩
theorem okb : rc.ok = true := by kernel_rfl
noncomputable def us : SMs := fun Γ ins n => smH (cxG n Γ ins) [] (smR (cxG n Γ ins) [])
theorem us_ok : SMsOk us := fun Γ ins n => qXr (tabsG n Γ ins) (qJn _) (qXg (tabsG n Γ ins) (qJo _))
def Q0 : E := (.f 21 (.v 0) (.c 0) (.c 0))
def Q1 : E := (.cl 1000 0 4611686018427387904)
def Q2 : E := (.f 22 (.v 0) Q1 (.c 0))
def Q3 : E := (te Q1 (.c 0))
def Q4 : E := (tn Q2 (.c 95))
def Q5 : E := (tk Q2 (.c 48))
def Q6 : E := (tk (.c 57) Q2)
def Q7 : E := (tp Q1 (.c 1))
def Q8 : E := (tl Q7 (.c 4611686018427387904))
def tree : TT (List E) :=
 (.br (tk Q0 (.c 1)) (.leaf [(.c 0)]) (.br (tk (.c 24) Q0) (.leaf [(.c 0)]) (.loop ⟨1000, [some (0, 4611686018427387904)], [(.c 0)], 1002⟩ (.br (tk Q1 Q0) (.br (tl (.c 97) Q2) (.br (.nt (tl Q2 (.c 122))) (.br Q3 (.exit 0) (.br Q4 (.br Q5 (.exit 1) (.br Q6 (.exit 2) (.br Q8 (.back [Q7]) (.bad 303)))) (.br Q8 (.back [Q7]) (.bad 303)))) (.br Q8 (.back [Q7]) (.bad 303))) (.br Q3 (.exit 3) (.br Q4 (.br Q5 (.exit 4) (.br Q6 (.exit 5) (.br Q8 (.back [Q7]) (.bad 303)))) (.br Q8 (.back [Q7]) (.bad 303))))) (.exit 6)) (.br (te (.v 1002) (.c 0)) (.leaf [(.c 0)]) (.br (te (.v 1002) (.c 1)) (.leaf [(.c 0)]) (.br (te (.v 1002) (.c 2)) (.leaf [(.c 0)]) (.br (te (.v 1002) (.c 3)) (.leaf [(.c 0)]) (.br (te (.v 1002) (.c 4)) (.leaf [(.c 0)]) (.br (te (.v 1002) (.c 5)) (.leaf [(.c 0)]) (.leaf [(.c
 1)]))))))))))
def sq0 (y0 a : Int) (m0 : Nat) (I1000 : Int → Nat → Prop) : Prop := (Pb (Pe y0 0) (((0 : Int) ≠ 0 ↔ ((isZ a) : Int) ≠ 0) ∧ True) (Pb (Pd (qQg a y0) 95) (Pb (Pl (qQg a y0) 48) (((0 : Int) ≠ 0 ↔ ((isZ a) : Int) ≠ 0) ∧ True) (Pb (Pl 57 (qQg a y0)) (((0 : Int) ≠ 0 ↔ ((isZ a) : Int) ≠ 0) ∧ True) (Pm (PL (y0 + 1) 4611686018427387904) (∃ m', m' < m0 ∧ I1000 (y0 + 1) m')))) (Pm (PL (y0 + 1) 4611686018427387904) (∃ m', m' < m0 ∧ I1000 (y0 + 1) m'))))
def P (a : Int) : Prop :=
 (Pb (Pl (qQf a) 1) (((0 : Int) ≠ 0 ↔ ((isZ a) : Int) ≠ 0) ∧ True) (Pb (Pl 24 (qQf a)) (((0 : Int) ≠ 0 ↔ ((isZ a) : Int) ≠ 0) ∧ True) (∃ I1000 : Int → Nat → Prop, (∃ m, I1000 0 m) ∧ ∀ y0 : Int, ∀ m0, ((0 ≤ y0 ∧ y0 ≤ 4611686018427387904) ∧ True) → I1000 y0 m0 → (Pb (Pl y0 (qQf a)) (Pb (PL 97 (qQg a y0)) (Pb (Pe (PL (qQg a y0) 122) 0) (sq0 y0 a m0 I1000) (Pm (PL (y0 + 1) 4611686018427387904) (∃ m', m' < m0 ∧ I1000 (y0 + 1) m'))) (sq0 y0 a m0 I1000)) (((1 : Int) ≠ 0 ↔ ((isZ a) : Int) ≠ 0) ∧ True)))))
theorem holds (s0 : Int) : P s0 := by
 delta P sq0 Pb Pm PL Pl Pe Pd
 simp only [nrm, Int.reduceEq, Int.reduceNeg, reduceIte]
 have hl := qJv s0
 simp only [isZ_eq]
 unfold isName
 refine ⟨fun h => by omega, fun h => ⟨fun h2 => by omega, fun h2 => ?_⟩⟩
 refine ⟨fun i m => i ≤ qQf s0 ∧ (1 ≤ i → qZt (qQg s0 0)) ∧ (∀ j : Nat, (j : Int) < i → qXi (qQg s0 j)) ∧ m = (qQf s0 - i).toNat, ⟨_, hl.1, fun h => by omega, fun j hj => by omega, rfl⟩, fun i m hb hI => ?_⟩
 obtain ⟨hi, hs, hj, rfl⟩ := hI
 have hi0 := nat_i hb.1
 have next : i < qQf s0 → (i = 0 → qZt (qQg s0 0)) → qXi (qQg s0 i) → ∃ m', m' < (qQf s0 - i).toNat ∧ i + 1 ≤ qQf s0 ∧ (1 ≤ i + 1 → qZt (qQg s0 0)) ∧ (∀ j : Nat, (j : Int) < i + 1 → qXi (qQg s0 j)) ∧ m' = (qQf s0 - (i + 1)).toNat := fun h1 h2 h3 => by
  refine ⟨_, by omega, by omega, fun _ => ?_, fun j g => ?_, rfl⟩
  ·by_cases g : i = 0
   ·exact h2 g
   ·exact hs (by omega)
  ·by_cases g2 : (j : Int) < i
   ·exact hj j g2
   ·rw [show (j : Int) = i by omega]; exact h3
 have bad : i < qQf s0 → ¬ qXi (qQg s0 i) → ¬ (1 ≤ qQf s0 ∧ qQf s0 ≤ 24 ∧ qZt (qQg s0 0) ∧ ∀ j : Nat, (j : Int) < qQf s0 → qXi (qQg s0 j)) := fun h1 h3 h => h3 (by have := h.2.2.2 i.toNat (by omega); rwa [hi0] at this)
 have first : i = 0 → ¬ qZt (qQg s0 i) → ¬ (1 ≤ qQf s0 ∧ qQf s0 ≤ 24 ∧ qZt (qQg s0 0) ∧ ∀ j : Nat, (j : Int) < qQf s0 → qXi (qQg s0 j)) := fun h1 h3 h => h3 (by subst h1; exact h.2.2.1)
 have hm : i < qQf s0 → i + 1 ≤ 4611686018427387904 := fun h => by have := hl.2; unfold qZg at this; omega
 repeat' (first | apply And.intro | intro _)
 all_goals first
  | (exfalso; have := hm (by assumption); omega)
  | exact next (by assumption) (fun h => by subst h; unfold qZt; omega) (by unfold qXi qZt; omega)
  | exact next (by assumption) (fun h => absurd h (by assumption)) (by unfold qXi qZt; omega)
  | (rename_i h; exact bad (by assumption) (by unfold qXi qZt; omega) h)
  | (rename_i h; exact first (by assumption) (by unfold qZt; omega) h)
  | (rename_i h; exact h ⟨by omega, by omega, hs (by omega), fun j g => hj j (by omega)⟩)
theorem plain (i v ro p) : statR 2 rc tree ⟨i, fN, v, ro, p⟩ = P (i 0) := by kernel_rfl
theorem ran : ranR us (fun _ _ => .auto) rc 2 tree = true := by kernel_rfl
theorem fineT : fineR 2 rc tree = true := by kernel_rfl
theorem ok : RcOk (cxOf 2) rc := okR us_ok ran fineT okb fun i v ro p hρ hcap hpre => by rw [plain]; have q := hρ.hi; exact holds _
end CRIs
namespace CRPlc19
def rk : Rk := ⟨13, [(0, 1000000), (0, 1000000)], 5, [.ptr 0 0, .str (.v 4)], [.cells [.sl (.own 1) 2 (.c 0) (.v 0) none, .sl (.own 2) 2 (.c 0) (.v 1) none] 29 none, .arr [.str, .int .i64] 53 (.v 2) (.v 0), .arr [.str, .int .i64] 53 (.v 3) (.v 1)], [], .tup [.int .i64 (.v 1000000), .bool (.v 1000001)], [.cells [.sl (.own 1) 2 (.c 0) (.v 0) none, .sl (.own 2) 2 (.c 0) (.v 1) none] 29 none, .arr [.str, .int .i64] 53 (.v 2) (.v 0), .arr [.str, .int .i64] 53 (.v 3) (.v 1)], [.num (.ite (.b .le .i64 (.c 0) (.f 26 (.v 2) (.v 0) (.v 4))) (.w .i64 (.f 13 (.f 13 (.v 2) (.f 26 (.v 2) (.v 0) (.v 4)) (.c 0)) (.c 1) (.c 0))) (.c 0)), .bool (.b .le .i64 (.c 0) (.f 26 (.v 2) (.v 0) (.v 4)))], []⟩
theorem okk : rk.ok = true := by kernel_rfl
theorem okh : rk.rh.ok = true := by kernel_rfl
noncomputable def us : SMs := fun Γ ins n => smH (cxG n Γ ins) [] (smR (cxG n Γ ins) [])
theorem us_ok : SMsOk us := fun Γ ins n => qXr (tabsG n Γ ins) (qJn _) (qXg (tabsG n Γ ins) (qJo _))
def tree : TT (List E) :=
(.loop ⟨1000, [some (0, 4611686018427387904)], [(.c 0)], 1002⟩
 (.br (.b .lt .i64 (.cl 1000 0 4611686018427387904) (.v 0))
 (.br (.f 20 (.f 13 (.f 13 (.v 2) (.cl 1000 0 4611686018427387904) (.c 0)) (.c 0) (.c 0)) (.v 4) (.c 0))
 (.exit 0)
 (.br (.b .le .i64 (.b .padd .i64 (.cl 1000 0 4611686018427387904) (.c 1)) (.c 4611686018427387904))
 (.back [(.b .padd .i64 (.cl 1000 0 4611686018427387904) (.c 1))])
 (.bad 303)))
 (.exit 1))
 (.br (.b .eq .i64 (.v 1002) (.c 0))
 (.leaf [(.w .i64 (.f 13 (.f 13 (.v 2) (.cl 1000 0 4611686018427387904) (.c 0)) (.c 1) (.c 0))), (.c 1)])
 (.leaf [(.c 0), (.c 0)])))
def P (n u q uq s : Int) : Prop :=
 ∃ I1000 : Int → Nat → Prop, (∃ m, I1000 0 m) ∧
 ∀ y1000 : Int, ∀ m1000, ((0 ≤ y1000 ∧ y1000 ≤ 4611686018427387904) ∧ True) → I1000 y1000 m1000 →
  (((qQq (decide (y1000 < n))) ≠ 0 →
   (((seqZ (rdZ (rdZ q y1000) 0) s) ≠ 0 →
    (((qQq ((0 : Int) == 0)) ≠ 0 →
     ((IntKind.wrap .i64 (rdZ (rdZ q y1000) 1)) : Int) = (iteZ (qQq (decide (0 ≤ (mfsZ q n s)))) (IntKind.wrap .i64 (rdZ (rdZ q (mfsZ q n s)) 1)) 0) ∧ ((1 : Int) ≠ 0 ↔ ((qQq (decide (0 ≤ (mfsZ q n s)))) : Int) ≠ 0) ∧ True) ∧ ((qQq ((0 : Int) == 0)) = 0 →
     (0 : Int) = (iteZ (qQq (decide (0 ≤ (mfsZ q n s)))) (IntKind.wrap .i64 (rdZ (rdZ q (mfsZ q n s)) 1)) 0) ∧ ((0 : Int) ≠ 0 ↔ ((qQq (decide (0 ≤ (mfsZ q n s)))) : Int) ≠ 0) ∧ True))) ∧ ((seqZ (rdZ (rdZ q y1000) 0) s) = 0 →
    (((qQq (decide ((y1000 + 1) ≤ 4611686018427387904))) ≠ 0 →
     ∃ m', m' < m1000 ∧ I1000 (y1000 + 1) m') ∧ ((qQq (decide ((y1000 + 1) ≤ 4611686018427387904))) = 0 →
     False))))) ∧ ((qQq (decide (y1000 < n))) = 0 →
   (((qQq ((1 : Int) == 0)) ≠ 0 →
    ((IntKind.wrap .i64 (rdZ (rdZ q y1000) 1)) : Int) = (iteZ (qQq (decide (0 ≤ (mfsZ q n s)))) (IntKind.wrap .i64 (rdZ (rdZ q (mfsZ q n s)) 1)) 0) ∧ ((1 : Int) ≠ 0 ↔ ((qQq (decide (0 ≤ (mfsZ q n s)))) : Int) ≠ 0) ∧ True) ∧ ((qQq ((1 : Int) == 0)) = 0 →
    (0 : Int) = (iteZ (qQq (decide (0 ≤ (mfsZ q n s)))) (IntKind.wrap .i64 (rdZ (rdZ q (mfsZ q n s)) 1)) 0) ∧ ((0 : Int) ≠ 0 ↔ ((qQq (decide (0 ≤ (mfsZ q n s)))) : Int) ≠ 0) ∧ True))))
theorem holds (n u q uq s : Int) (l_n : 0 ≤ n) (u_n : n ≤ 1000000) (l_u : 0 ≤ u) (u_u : u ≤ 1000000) : P n u q uq s := by
 unfold P
 simp only [nrm, Int.reduceEq, Int.reduceNeg, reduceIte]
 refine ⟨fun k m => 0 ≤ k ∧ k ≤ n ∧ (∀ j : Nat, (j : Int) < k → nmOf q j ≠ qQk s) ∧ m = (n - k).toNat, ⟨n.toNat, by omega, by omega, fun j hj => by omega, by omega⟩, ?_⟩
 rintro k m _ ⟨k0, k1, hb, hm⟩
 refine ⟨fun hk => ⟨fun hs => ?_, fun hs => ?_⟩, fun hk => ?_⟩
 ·have he : nmOf q k.toNat = qQk s := by
   have := seqZ_byt.1 hs
   rw [← strOf_iff] at this
   unfold nmOf
   rw [Int.toNat_of_nonneg k0]; exact this
  have hf := mfs_at (q := q) (s := s) (k := k.toNat) u_n (by omega) he (fun j hj => hb j (by omega))
  rw [hf, Int.toNat_of_nonneg k0]
  simp [k0]
 ·have hne : nmOf q k.toNat ≠ qQk s := fun e => by
   unfold nmOf at e
   rw [Int.toNat_of_nonneg k0] at e
   exact (seqZ_byt.2 (strOf_iff.1 e)) hs
  refine ⟨fun _ => ⟨(n - (k + 1)).toNat, by omega, by omega, by omega, fun j hj => ?_, rfl⟩, fun h => by omega⟩
  rcases Int.lt_or_le j k with h | h
  ·exact hb j h
  ·have : j = k.toNat := by omega
   subst this; exact hne
 ·have hf := mfs_no (q := q) (s := s) l_n u_n (fun j hj => hb j (by omega))
  rw [hf]
  simp
theorem plain (i v ro p) : statH 2 rk tree ⟨i, fN, v, ro, p⟩ = P (i 0) (i 1) (i 2) (i 3) (i 4) := by kernel_rfl
theorem ran : ranH us (fun _ _ => .auto) rk 2 tree = true := by kernel_rfl
theorem fineT : fineH 2 rk tree = true := by kernel_rfl
theorem ok : RhOk (cxOf 2) rk.rh := okH us_ok ran fineT (by kernel_rfl) okk fun i v ro p hρ hpre => by rw [plain]; have q := hρ.hi; exact holds _ _ _ _ _ (q 0 _ rfl).1 (q 0 _ rfl).2 (q 1 _ rfl).1 (q 1 _ rfl).2
end CRPlc19
namespace CRDef19
def rk : Rk := ⟨7, [(0, 1000000), (0, 1000000), (-9223372036854775808, 9223372036854775807)], 6, [.ptr 0 0, .str (.v 5), .int .i64 (.v 2)], [.cells [.sl (.own 1) 2 (.c 0) (.v 0) none, .sl (.own 2) 2 (.c 0) (.v 1) none] 29 none, .arr [.str, .int .i64] 53 (.v 3) (.v 0), .arr [.str, .int .i64] 53 (.v 4) (.v 1)], [(.b .le .i64 (.v 0) (.c 999999))], .int .i64 (.v 1000001), [.cells [.sl (.own 3) 2 (.c 0) (.v 1000000) none, .sl (.own 2) 2 (.c 0) (.v 1) none] 29 none, .gone, .arr [.str, .int .i64] 53 (.v 4) (.v 1), .arr [.str, .int .i64] 53 (.v 1000002) (.v 1000000)], [.num (.b .padd .i64 (.v 0) (.ite (.f 53 (.v 5) (.c 0) (.c 0)) (.ite (.b .le .i64 (.c 0) (.f 26 (.v 3) (.v 0) (.v 5))) (.c 0) (.c 1)) (.c 0))), .num (.ite (.f 53 (.v 5) (.c 0) (.c 0)) (.ite (.b .le .i64 (.c 0) (.f 26 (.v 3) (.v 0) (.v 5))) (.c 9) (.c 0)) (.c 8)), .code [.str, .int .i64] (.ite (.ite (.f 53 (.v 5) (.c 0) (.c 0)) (.ite (.b .le .i64 (.c 0) (.f 26 (.v 3) (.v 0) (.v 5))) (.c 0) (.c 1)) (.c 0)) (.f 14 (.v 3) (.v 0) (.f 11 (.v 5) (.f 11 (.v 2) (.c 0) (.c 0)) (.c 0))) (.v 3)) (.b .padd .i64 (.v 0) (.ite (.f 53 (.v 5) (.c 0) (.c 0)) (.ite (.b .le .i64 (.c 0) (.f 26 (.v 3) (.v 0) (.v 5))) (.c 0) (.c 1)) (.c 0)))], []⟩
theorem okk : rk.ok = true := by kernel_rfl
theorem okh : rk.rh.ok = true := by kernel_rfl
noncomputable def us : SMs := fun Γ ins n => smH (cxG n Γ ins) [CRPlc19.rk.rh] (smR (cxG n Γ ins) [CRIs.rc])
theorem us_ok : SMsOk us := fun Γ ins n => qXr (tabsG n Γ ins) (qZn CRPlc19.okh (rh_n CRPlc19.ok) (qJn _)) (qXg (tabsG n Γ ins) (qXq CRIs.okb (rc_n CRIs.ok) (qJo _)))
def tree : TT (List E) :=
(.br (.nt (.f 53 (.v 5) (.c 0) (.c 0)))
 (.leaf [(.v 0), (.c 8), (.v 3)])
 (.br (.b .le .i64 (.c 0) (.f 26 (.v 3) (.v 0) (.v 5)))
 (.leaf [(.v 0), (.c 9), (.v 3)])
 (.br (.b .le .i64 (.b .padd .i64 (.v 0) (.c 1)) (.c 1000000))
 (.leaf [(.b .padd .i64 (.v 0) (.c 1)), (.c 0), (.f 14 (.v 3) (.v 0) (.f 11 (.v 5) (.f 11 (.v 2) (.c 0) (.c 0)) (.c 0)))])
 (.bad 200))))
def P (n u p q uq s : Int) : Prop :=
 (((qQq ((isZ s) == 0)) ≠ 0 →
  (n : Int) = (n + (iteZ (isZ s) (iteZ (qQq (decide (0 ≤ (mfsZ q n s)))) 0 1) 0)) ∧ (8 : Int) = (iteZ (isZ s) (iteZ (qQq (decide (0 ≤ (mfsZ q n s)))) 9 0) 8) ∧ qJe [.str, .int .i64] q (iteZ (iteZ (isZ s) (iteZ (qQq (decide (0 ≤ (mfsZ q n s)))) 0 1) 0) (updZ q n (qQj s (qQj p 0))) q) (n + (iteZ (isZ s) (iteZ (qQq (decide (0 ≤ (mfsZ q n s)))) 0 1) 0)) ∧ True) ∧ ((qQq ((isZ s) == 0)) = 0 →
  (((qQq (decide (0 ≤ (mfsZ q n s)))) ≠ 0 →
   (n : Int) = (n + (iteZ (isZ s) (iteZ (qQq (decide (0 ≤ (mfsZ q n s)))) 0 1) 0)) ∧ (9 : Int) = (iteZ (isZ s) (iteZ (qQq (decide (0 ≤ (mfsZ q n s)))) 9 0) 8) ∧ qJe [.str, .int .i64] q (iteZ (iteZ (isZ s) (iteZ (qQq (decide (0 ≤ (mfsZ q n s)))) 0 1) 0) (updZ q n (qQj s (qQj p 0))) q) (n + (iteZ (isZ s) (iteZ (qQq (decide (0 ≤ (mfsZ q n s)))) 0 1) 0)) ∧ True) ∧ ((qQq (decide (0 ≤ (mfsZ q n s)))) = 0 →
   (((qQq (decide ((n + 1) ≤ 1000000))) ≠ 0 →
    ((n + 1) : Int) = (n + (iteZ (isZ s) (iteZ (qQq (decide (0 ≤ (mfsZ q n s)))) 0 1) 0)) ∧ (0 : Int) = (iteZ (isZ s) (iteZ (qQq (decide (0 ≤ (mfsZ q n s)))) 9 0) 8) ∧ qJe [.str, .int .i64] (updZ q n (qQj s (qQj p 0))) (iteZ (iteZ (isZ s) (iteZ (qQq (decide (0 ≤ (mfsZ q n s)))) 0 1) 0) (updZ q n (qQj s (qQj p 0))) q) (n + (iteZ (isZ s) (iteZ (qQq (decide (0 ≤ (mfsZ q n s)))) 0 1) 0)) ∧ True) ∧ ((qQq (decide ((n + 1) ≤ 1000000))) = 0 →
    False))))))
theorem holds (n u p q uq s : Int) (l_n : 0 ≤ n) (u_n : n ≤ 1000000) (l_u : 0 ≤ u) (u_u : u ≤ 1000000) (l_p : -9223372036854775808 ≤ p) (u_p : p ≤ 9223372036854775807) (h_pre0 : qQq (decide (n ≤ 999999)) ≠ 0) : P n u p q uq s := by
 unfold P
 simp only [nrm, Int.reduceEq, Int.reduceNeg, reduceIte] at h_pre0 ⊢
 rcases isZ_01 s with h | h
 ·rw [h]
  simp [qJe]
 ·rw [h]
  by_cases h2 : 0 ≤ mfsZ q n s
  ·simp [h2, qJe, qQq]
   try omega
  ·have h3 : mfsZ q n s < 0 := by omega
   simp [h2, h3, qJe, qQq]
   omega
theorem plain (i v ro p) : statH 2 rk tree ⟨i, fN, v, ro, p⟩ = P (i 0) (i 1) (i 2) (i 3) (i 4) (i 5) := by kernel_rfl
theorem ran : ranH us (fun _ _ => .auto) rk 2 tree = true := by kernel_rfl
theorem fineT : fineH 2 rk tree = true := by kernel_rfl
theorem ok : RhOk (cxOf 2) rk.rh := okH us_ok ran fineT (by kernel_rfl) okk fun i v ro p hρ hpre => by rw [plain]; have q := hρ.hi; exact holds _ _ _ _ _ _ (q 0 _ rfl).1 (q 0 _ rfl).2 (q 1 _ rfl).1 (q 1 _ rfl).2 (q 2 _ rfl).1 (q 2 _ rfl).2 (hpre _ (mg 0 rfl))
end CRDef19
namespace CRUse19
def rk : Rk := ⟨9, [(0, 1000000), (0, 1000000), (-9223372036854775808, 9223372036854775807)], 6, [.ptr 0 0, .str (.v 5), .int .i64 (.v 2)], [.cells [.sl (.own 1) 2 (.c 0) (.v 0) none, .sl (.own 2) 2 (.c 0) (.v 1) none] 29 none, .arr [.str, .int .i64] 53 (.v 3) (.v 0), .arr [.str, .int .i64] 53 (.v 4) (.v 1)], [(.b .le .i64 (.v 1) (.c 999999))], .int .i64 (.v 1000001), [.cells [.sl (.own 1) 2 (.c 0) (.v 0) none, .sl (.own 3) 2 (.c 0) (.v 1000000) none] 29 none, .arr [.str, .int .i64] 53 (.v 3) (.v 0), .gone, .arr [.str, .int .i64] 53 (.v 1000002) (.v 1000000)], [.num (.b .padd .i64 (.v 1) (.f 53 (.v 5) (.c 0) (.c 0))), .num (.ite (.f 53 (.v 5) (.c 0) (.c 0)) (.c 0) (.c 8)), .code [.str, .int .i64] (.ite (.f 53 (.v 5) (.c 0) (.c 0)) (.f 14 (.v 4) (.v 1) (.f 11 (.v 5) (.f 11 (.v 2) (.c 0) (.c 0)) (.c 0))) (.v 4)) (.b .padd .i64 (.v 1) (.f 53 (.v 5) (.c 0) (.c 0)))], []⟩
theorem okk : rk.ok = true := by kernel_rfl
theorem okh : rk.rh.ok = true := by kernel_rfl
noncomputable def us : SMs := fun Γ ins n => smH (cxG n Γ ins) [] (smR (cxG n Γ ins) [CRIs.rc])
theorem us_ok : SMsOk us := fun Γ ins n => qXr (tabsG n Γ ins) (qJn _) (qXg (tabsG n Γ ins) (qXq CRIs.okb (rc_n CRIs.ok) (qJo _)))
def tree : TT (List E) :=
(.br (.nt (.f 53 (.v 5) (.c 0) (.c 0)))
 (.leaf [(.v 1), (.c 8), (.v 4)])
 (.br (.b .le .i64 (.b .padd .i64 (.v 1) (.c 1)) (.c 1000000))
 (.leaf [(.b .padd .i64 (.v 1) (.c 1)), (.c 0), (.f 14 (.v 4) (.v 1) (.f 11 (.v 5) (.f 11 (.v 2) (.c 0) (.c 0)) (.c 0)))])
 (.bad 200)))
def P (n u p q uq s : Int) : Prop :=
 (((qQq ((isZ s) == 0)) ≠ 0 →
  (u : Int) = (u + (isZ s)) ∧ (8 : Int) = (iteZ (isZ s) 0 8) ∧ qJe [.str, .int .i64] uq (iteZ (isZ s) (updZ uq u (qQj s (qQj p 0))) uq) (u + (isZ s)) ∧ True) ∧ ((qQq ((isZ s) == 0)) = 0 →
  (((qQq (decide ((u + 1) ≤ 1000000))) ≠ 0 →
   ((u + 1) : Int) = (u + (isZ s)) ∧ (0 : Int) = (iteZ (isZ s) 0 8) ∧ qJe [.str, .int .i64] (updZ uq u (qQj s (qQj p 0))) (iteZ (isZ s) (updZ uq u (qQj s (qQj p 0))) uq) (u + (isZ s)) ∧ True) ∧ ((qQq (decide ((u + 1) ≤ 1000000))) = 0 →
   False))))
theorem holds (n u p q uq s : Int) (l_n : 0 ≤ n) (u_n : n ≤ 1000000) (l_u : 0 ≤ u) (u_u : u ≤ 1000000) (l_p : -9223372036854775808 ≤ p) (u_p : p ≤ 9223372036854775807) (h_pre0 : qQq (decide (u ≤ 999999)) ≠ 0) : P n u p q uq s := by
 unfold P
 simp only [nrm, Int.reduceEq, Int.reduceNeg, reduceIte] at h_pre0 ⊢
 rcases isZ_01 s with h | h
 ·rw [h]
  simp [qJe]
 ·rw [h]
  simp [qJe]
  omega
theorem plain (i v ro p) : statH 2 rk tree ⟨i, fN, v, ro, p⟩ = P (i 0) (i 1) (i 2) (i 3) (i 4) (i 5) := by kernel_rfl
theorem ran : ranH us (fun _ _ => .auto) rk 2 tree = true := by kernel_rfl
theorem fineT : fineH 2 rk tree = true := by kernel_rfl
theorem ok : RhOk (cxOf 2) rk.rh := okH us_ok ran fineT (by kernel_rfl) okk fun i v ro p hρ hpre => by rw [plain]; have q := hρ.hi; exact holds _ _ _ _ _ _ (q 0 _ rfl).1 (q 0 _ rfl).2 (q 1 _ rfl).1 (q 1 _ rfl).2 (q 2 _ rfl).1 (q 2 _ rfl).2 (hpre _ (mg 0 rfl))
end CRUse19
end Go.Proofs.YtmehpgejkoaigaaDoor
