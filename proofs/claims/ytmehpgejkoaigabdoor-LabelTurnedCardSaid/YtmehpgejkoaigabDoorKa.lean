/-
  What functions of the program answer, as numbers of what they are handed: their runs by the engine, the plain statements behind them. No condition.
-/
import Derived.Test.YtmehpgejkoaigabDoorGab
import Derived.Test.YtmehpgejkoaigabDoorGib
import Derived.Test.YtmehpgejkoaigabDoorGp1
set_option linter.unusedVariables false
set_option linter.unusedSimpArgs false
set_option maxRecDepth 100000
namespace Go.Proofs.YtmehpgejkoaigabDoor
open Go.Eng Go.RowKit
namespace CPIs
def rc : Rc := ⟨13, [none], [.str], [], .one, [.bool (.f 53 (.v 0) (.c 0) (.c 0))]⟩
theorem okb : rc.ok = true := by kernel_rfl
noncomputable def us : SMs := fun Γ ins n => smH (cxG n Γ ins) [] (smAnd 19 (libCon1 Γ ins n) (smAnd 20 (libTrim Γ ins n) (smR (cxG n Γ ins) [])))
theorem us_ok : SMsOk us := fun Γ ins n => smH_ok (tabsG n Γ ins) (rhs_nil _) (smAnd_ok (libCon1_ok Γ ins n) (smAnd_ok (libTrim_ok Γ ins n) (smR_ok (tabsG n Γ ins) (rcs_nil _))))
def Q0 : E := (tC (.c 0) (tC (.c 0) (.c 0)))
def Q1 : E := (.f 18 (tR (.v 0) (.c 1)) (.c 0) (.c 0))
def Q2 : E := (tC Q1 (.c 0))
def Q3 : E := (tC (.c 1) Q2)
def tree : TT (List E) :=
 (.br (.f 20 (.v 0) Q0 (.c 0)) (.leaf [(.c 0)]) (.br (tk (.c 24) (.f 21 (.v 0) (.c 0) (.c 0))) (.leaf [(.c 0)]) (.br (tl (.c 1) (.f 21 (.v 0) (.c 0) (.c 0))) (.br (te (.f 21 Q3 (.c 0) (.c 0)) (.c 1)) (.br (.nt (.f 51 (tC (.c 26) (tC (tC (.c 97) (tC (.c 98) (tC (.c 99) (tC (.c 100) (tC (.c 101) (tC (.c 102) (tC (.c 103) (tC (.c 104) (tC (.c 105) (tC (.c 106) (tC (.c 107) (tC (.c 108) (tC (.c 109) (tC (.c 110) (tC (.c 111) (tC (.c 112) (tC (.c 113) (tC (.c 114) (tC (.c 115) (tC (.c 116) (tC (.c 117) (tC (.c 118) (tC (.c 119) (tC (.c 120) (tC (.c 121) (tC (.c 122) (.c 0))))))))))))))))))))))))))) (.c 0))) (.f 22 Q3 (.c 0) (.c 0)) (.c 0))) (.leaf [(.c 0)]) (.leaf [(.f 20 (.f 52 (.v 0) (tC (.c 37) (tC (tC (.c 97) (tC (.c 98) (tC (.c 99) (tC (.c 100) (tC (.c 101) (tC (.c 102) (tC (.c 103) (tC
 (.c 104) (tC (.c 105) (tC (.c 106) (tC (.c 107) (tC (.c 108) (tC (.c 109) (tC (.c 110) (tC (.c 111) (tC (.c 112) (tC (.c 113) (tC (.c 114) (tC (.c 115) (tC (.c 116) (tC (.c 117) (tC (.c 118) (tC (.c 119) (tC (.c 120) (tC (.c 121) (tC (.c 122) (tC (.c 48) (tC (.c 49) (tC (.c 50) (tC (.c 51) (tC (.c 52) (tC (.c 53) (tC (.c 54) (tC (.c 55) (tC (.c 56) (tC (.c 57) (tC (.c 95) (.c 0)))))))))))))))))))))))))))))))))))))) (.c 0))) (.c 0)) Q0 (.c 0))])) (.bad 200)) (.bad 200))))
def P (a : Int) : Prop :=
 (Pb (seqZ a (kZ 0 (kZ 0 0))) (((0 : Int) ≠ 0 ↔ ((isZ a) : Int) ≠ 0) ∧ True) (Pb (Pl 24 (qQt a)) (((0 : Int) ≠ 0 ↔ ((isZ a) : Int) ≠ 0) ∧ True) (Pm (PL 1 (qQt a)) (Pm (Pe (qQt (kZ 1 (kZ (dropZ (rdZ a 1) 0) 0))) 1) (Pb (Pe (hasB (kZ 26 (kZ (kZ 97 (kZ 98 (kZ 99 (kZ 100 (kZ 101 (kZ 102 (kZ 103 (kZ 104 (kZ 105 (kZ 106 (kZ 107 (kZ 108 (kZ 109 (kZ 110 (kZ 111 (kZ 112 (kZ 113 (kZ 114 (kZ 115 (kZ 116 (kZ 117 (kZ 118 (kZ 119 (kZ 120 (kZ 121 (kZ 122 0)))))))))))))))))))))))))) 0)) (qZx (kZ 1 (kZ (dropZ (rdZ a 1) 0) 0)) 0)) 0) (((0 : Int) ≠ 0 ↔ ((isZ a) : Int) ≠ 0) ∧ True) ((((seqZ (trimZ a (kZ 37 (kZ (kZ 97 (kZ 98 (kZ 99 (kZ 100 (kZ 101 (kZ 102 (kZ 103 (kZ 104 (kZ 105 (kZ 106 (kZ 107 (kZ 108 (kZ 109 (kZ 110 (kZ 111 (kZ 112 (kZ 113 (kZ 114 (kZ 115 (kZ 116 (kZ 117 (kZ 118 (kZ 119 (kZ 120 (kZ
 121 (kZ 122 (kZ 48 (kZ 49 (kZ 50 (kZ 51 (kZ 52 (kZ 53 (kZ 54 (kZ 55 (kZ 56 (kZ 57 (kZ 95 0))))))))))))))))))))))))))))))))))))) 0))) (kZ 0 (kZ 0 0))) : Int) ≠ 0 ↔ ((isZ a) : Int) ≠ 0) ∧ True))))))
theorem holds (s0 : Int) : P s0 := by
 delta P Pb Pm PL Pl Pe kZ
 simp only [nrm, Int.reduceEq, Int.reduceNeg, reduceIte, sbyte_cut, slen_one]
 have hb := qKv s0 0
 have hl := qJi s0
 have hs := has_small small_code hb.1 hb.2
 have ht := trim_other (s := s0) other_code
 generalize qQz 26 _ = S at hs ⊢
 generalize trimZ s0 _ = T at ht ⊢
 simp only [seq_empty0, isZ_eq]
 unfold isName
 refine ⟨fun h => ?_, fun h => ⟨fun h2 => ?_, fun h2 => ⟨fun h3 => ⟨fun h4 => ?_, fun h4 => ?_⟩, fun h3 => ?_⟩⟩⟩
 ·intro g; omega
 ·intro g; omega
 ·intro g; exact (hs.2 g.2.2.1) h4
 ·have h5 := hs.1 h4
  refine (not_congr (not_congr ht)).trans ?_
  rw [Classical.not_not, Classical.not_not]
  exact ⟨fun g => ⟨h3, h2, h5, g⟩, fun g => g.2.2.2⟩
 ·omega
theorem plain (i v ro p) : statR 2 rc tree ⟨i, fN, v, ro, p⟩ = P (i 0) := by kernel_rfl
theorem ran : ranR us (fun _ _ => .auto) rc 2 tree = true := by kernel_rfl
theorem fineT : fineR 2 rc tree = true := by kernel_rfl
theorem ok : RcOk (cxOf 2) rc := okR us_ok ran fineT okb fun i v ro p hρ hcap hpre => by rw [plain]; have q := hρ.hi; exact holds _
end CPIs
namespace CLDef
def rk : Rk := ⟨6, [(0, 1000000), (0, 1000000), (-9223372036854775808, 9223372036854775807)], 6, [.ptr 0 0, .str (.v 5), .int .i64 (.v 2)], [.cells [.mp 1, .sl (.own 2) 2 (.c 0) (.v 1) none] 41 none, .map (.str) (.int .i64) (.v 3) (.v 0), .arr [.str, .int .i64] 49 (.v 4) (.v 1)], [(.b .le .i64 (.v 0) (.c 999999))], .int .i64 (.v 1000001), [.cells [.mp 1, .sl (.own 2) 2 (.c 0) (.v 1) none] 41 none, .map (.str) (.int .i64) (.v 1000002) (.v 1000000), .arr [.str, .int .i64] 49 (.v 4) (.v 1)], [.num (.b .padd .i64 (.v 0) (.ite (.f 53 (.v 5) (.c 0) (.c 0)) (.ite (.b .le .i64 (.c 0) (.f 26 (.v 3) (.v 0) (.v 5))) (.c 0) (.c 1)) (.c 0))), .num (.ite (.f 53 (.v 5) (.c 0) (.c 0)) (.ite (.b .le .i64 (.c 0) (.f 26 (.v 3) (.v 0) (.v 5))) (.c 9) (.c 0)) (.c 8)), .code [.str, .int .i64] (.ite (.ite (.f 53 (.v 5) (.c 0) (.c 0)) (.ite (.b .le .i64 (.c 0) (.f 26 (.v 3) (.v 0) (.v 5))) (.c 0) (.c 1)) (.c 0)) (.f 14 (.v 3) (.v 0) (.f 11 (.v 5) (.f 11 (.v 2) (.c 0) (.c 0)) (.c 0))) (.v 3)) (.b .padd .i64 (.v 0) (.ite (.f 53 (.v 5) (.c 0) (.c 0)) (.ite (.b .le .i64 (.c 0) (.f 26 (.v 3) (.v 0) (.v 5))) (.c 0) (.c 1)) (.c 0)))], []⟩
theorem okk : rk.ok = true := by kernel_rfl
theorem okh : rk.rh.ok = true := by kernel_rfl
noncomputable def us : SMs := fun Γ ins n => smH (cxG n Γ ins) [] (smR (cxG n Γ ins) [CPIs.rc])
theorem us_ok : SMsOk us := fun Γ ins n => smH_ok (tabsG n Γ ins) (rhs_nil _) (smR_ok (tabsG n Γ ins) (rcs_cons CPIs.okb (rc_n CPIs.ok) (rcs_nil _)))
def tree : TT (List E) :=
(.br (.nt (.f 53 (.v 5) (.c 0) (.c 0)))
 (.leaf [(.v 0), (.c 8), (.v 3)])
 (.new 1000 (.ite (.b .le .i64 (.c 0) (.f 26 (.v 3) (.v 0) (.v 5))) (.w .i64 (.f 13 (.f 13 (.v 3) (.f 26 (.v 3) (.v 0) (.v 5)) (.c 0)) (.c 1) (.c 0))) (.c 0))
 (.br (.b .le .i64 (.c 0) (.f 26 (.v 3) (.v 0) (.v 5)))
 (.leaf [(.v 0), (.c 9), (.v 3)])
 (.br (.b .le .i64 (.v 0) (.c 999999))
 (.new 1001 (.ite (.b .le .i64 (.c 0) (.f 26 (.v 3) (.v 0) (.v 5))) (.v 0) (.b .padd .i64 (.v 0) (.c 1)))
 (.leaf [(.cl 1001 0 1000001), (.c 0), (.f 14 (.v 3) (.ite (.b .le .i64 (.c 0) (.f 26 (.v 3) (.v 0) (.v 5))) (.f 26 (.v 3) (.v 0) (.v 5)) (.v 0)) (.f 11 (.v 5) (.f 11 (.v 2) (.c 0) (.c 0)) (.c 0)))]))
 (.bad 200)))))
def P (n u p q uq s : Int) : Prop :=
 (((qQj ((isZ s) == 0)) ≠ 0 →
  (n : Int) = (n + (iteZ (isZ s) (iteZ (qQj (decide (0 ≤ (mfsZ q n s)))) 0 1) 0)) ∧ (8 : Int) = (iteZ (isZ s) (iteZ (qQj (decide (0 ≤ (mfsZ q n s)))) 9 0) 8) ∧ qKw [.str, .int .i64] q (iteZ (iteZ (isZ s) (iteZ (qQj (decide (0 ≤ (mfsZ q n s)))) 0 1) 0) (updZ q n (qQz s (qQz p 0))) q) (n + (iteZ (isZ s) (iteZ (qQj (decide (0 ≤ (mfsZ q n s)))) 0 1) 0)) ∧ True) ∧ ((qQj ((isZ s) == 0)) = 0 →
  ∀ y1000 : Int, y1000 = (iteZ (qQj (decide (0 ≤ (mfsZ q n s)))) (IntKind.wrap .i64 (rdZ (rdZ q (mfsZ q n s)) 1)) 0) → ((-9223372036854775808) ≤ y1000 ∧ y1000 ≤ 9223372036854775807) →
  (((qQj (decide (0 ≤ (mfsZ q n s)))) ≠ 0 →
   (n : Int) = (n + (iteZ (isZ s) (iteZ (qQj (decide (0 ≤ (mfsZ q n s)))) 0 1) 0)) ∧ (9 : Int) = (iteZ (isZ s) (iteZ (qQj (decide (0 ≤ (mfsZ q n s)))) 9 0) 8) ∧ qKw [.str, .int .i64] q (iteZ (iteZ (isZ s) (iteZ (qQj (decide (0 ≤ (mfsZ q n s)))) 0 1) 0) (updZ q n (qQz s (qQz p 0))) q) (n + (iteZ (isZ s) (iteZ (qQj (decide (0 ≤ (mfsZ q n s)))) 0 1) 0)) ∧ True) ∧ ((qQj (decide (0 ≤ (mfsZ q n s)))) = 0 →
   (((qQj (decide (n ≤ 999999))) ≠ 0 →
    ∀ y1001 : Int, y1001 = (iteZ (qQj (decide (0 ≤ (mfsZ q n s)))) n (n + 1)) → (0 ≤ y1001 ∧ y1001 ≤ 1000001) →
    (y1001 : Int) = (n + (iteZ (isZ s) (iteZ (qQj (decide (0 ≤ (mfsZ q n s)))) 0 1) 0)) ∧ (0 : Int) = (iteZ (isZ s) (iteZ (qQj (decide (0 ≤ (mfsZ q n s)))) 9 0) 8) ∧ qKw [.str, .int .i64] (updZ q (iteZ (qQj (decide (0 ≤ (mfsZ q n s)))) (mfsZ q n s) n) (qQz s (qQz p 0))) (iteZ (iteZ (isZ s) (iteZ (qQj (decide (0 ≤ (mfsZ q n s)))) 0 1) 0) (updZ q n (qQz s (qQz p 0))) q) (n + (iteZ (isZ s) (iteZ (qQj (decide (0 ≤ (mfsZ q n s)))) 0 1) 0)) ∧ True) ∧ ((qQj (decide (n ≤ 999999))) = 0 →
    False))))))
theorem holds (n u p q uq s : Int) (l_n : 0 ≤ n) (u_n : n ≤ 1000000) (l_u : 0 ≤ u) (u_u : u ≤ 1000000) (l_p : -9223372036854775808 ≤ p) (u_p : p ≤ 9223372036854775807) (h_pre0 : qQj (decide (n ≤ 999999)) ≠ 0) : P n u p q uq s := by
 unfold P
 simp only [nrm, Int.reduceEq, Int.reduceNeg, reduceIte] at h_pre0 ⊢
 rcases isZ_01 s with h | h
 ·rw [h]
  simp [qKw]
 ·rw [h]
  by_cases h2 : 0 ≤ mfsZ q n s
  ·simp [h2, qKw, qQj]
   try omega
  ·have h3 : mfsZ q n s < 0 := by omega
   simp [h2, h3, qKw, qQj]
   omega
theorem plain (i v ro p) : statH 2 rk tree ⟨i, fN, v, ro, p⟩ = P (i 0) (i 1) (i 2) (i 3) (i 4) (i 5) := by kernel_rfl
theorem ran : ranH us (fun _ _ => .auto) rk 2 tree = true := by kernel_rfl
theorem fineT : fineH 2 rk tree = true := by kernel_rfl
theorem ok : RhOk (cxOf 2) rk.rh := okH us_ok ran fineT (by kernel_rfl) okk fun i v ro p hρ hpre => by rw [plain]; have q := hρ.hi; exact holds _ _ _ _ _ _ (q 0 _ rfl).1 (q 0 _ rfl).2 (q 1 _ rfl).1 (q 1 _ rfl).2 (q 2 _ rfl).1 (q 2 _ rfl).2 (hpre _ (mg 0 rfl))
end CLDef
namespace CLUse
def rk : Rk := ⟨7, [(0, 1000000), (0, 1000000), (-9223372036854775808, 9223372036854775807)], 6, [.ptr 0 0, .str (.v 5), .int .i64 (.v 2)], [.cells [.mp 1, .sl (.own 2) 2 (.c 0) (.v 1) none] 41 none, .map (.str) (.int .i64) (.v 3) (.v 0), .arr [.str, .int .i64] 49 (.v 4) (.v 1)], [(.b .le .i64 (.v 1) (.c 999999))], .int .i64 (.v 1000001), [.cells [.mp 1, .sl (.own 3) 2 (.c 0) (.v 1000000) none] 41 none, .map (.str) (.int .i64) (.v 3) (.v 0), .gone, .arr [.str, .int .i64] 49 (.v 1000002) (.v 1000000)], [.num (.b .padd .i64 (.v 1) (.f 53 (.v 5) (.c 0) (.c 0))), .num (.ite (.f 53 (.v 5) (.c 0) (.c 0)) (.c 0) (.c 8)), .code [.str, .int .i64] (.ite (.f 53 (.v 5) (.c 0) (.c 0)) (.f 14 (.v 4) (.v 1) (.f 11 (.v 5) (.f 11 (.v 2) (.c 0) (.c 0)) (.c 0))) (.v 4)) (.b .padd .i64 (.v 1) (.f 53 (.v 5) (.c 0) (.c 0)))], []⟩
theorem okk : rk.ok = true := by kernel_rfl
theorem okh : rk.rh.ok = true := by kernel_rfl
noncomputable def us : SMs := fun Γ ins n => smH (cxG n Γ ins) [] (smR (cxG n Γ ins) [CPIs.rc])
theorem us_ok : SMsOk us := fun Γ ins n => smH_ok (tabsG n Γ ins) (rhs_nil _) (smR_ok (tabsG n Γ ins) (rcs_cons CPIs.okb (rc_n CPIs.ok) (rcs_nil _)))
def tree : TT (List E) :=
(.br (.nt (.f 53 (.v 5) (.c 0) (.c 0)))
 (.leaf [(.v 1), (.c 8), (.v 4)])
 (.br (.b .le .i64 (.b .padd .i64 (.v 1) (.c 1)) (.c 1000000))
 (.leaf [(.b .padd .i64 (.v 1) (.c 1)), (.c 0), (.f 14 (.v 4) (.v 1) (.f 11 (.v 5) (.f 11 (.v 2) (.c 0) (.c 0)) (.c 0)))])
 (.bad 200)))
def P (n u p q uq s : Int) : Prop :=
 (((qQj ((isZ s) == 0)) ≠ 0 →
  (u : Int) = (u + (isZ s)) ∧ (8 : Int) = (iteZ (isZ s) 0 8) ∧ qKw [.str, .int .i64] uq (iteZ (isZ s) (updZ uq u (qQz s (qQz p 0))) uq) (u + (isZ s)) ∧ True) ∧ ((qQj ((isZ s) == 0)) = 0 →
  (((qQj (decide ((u + 1) ≤ 1000000))) ≠ 0 →
   ((u + 1) : Int) = (u + (isZ s)) ∧ (0 : Int) = (iteZ (isZ s) 0 8) ∧ qKw [.str, .int .i64] (updZ uq u (qQz s (qQz p 0))) (iteZ (isZ s) (updZ uq u (qQz s (qQz p 0))) uq) (u + (isZ s)) ∧ True) ∧ ((qQj (decide ((u + 1) ≤ 1000000))) = 0 →
   False))))
theorem holds (n u p q uq s : Int) (l_n : 0 ≤ n) (u_n : n ≤ 1000000) (l_u : 0 ≤ u) (u_u : u ≤ 1000000) (l_p : -9223372036854775808 ≤ p) (u_p : p ≤ 9223372036854775807) (h_pre0 : qQj (decide (u ≤ 999999)) ≠ 0) : P n u p q uq s := by
 unfold P
 simp only [nrm, Int.reduceEq, Int.reduceNeg, reduceIte] at h_pre0 ⊢
 rcases isZ_01 s with h | h
 ·rw [h]
  simp [qKw]
 ·rw [h]
  simp [qKw]
  omega
theorem plain (i v ro p) : statH 2 rk tree ⟨i, fN, v, ro, p⟩ = P (i 0) (i 1) (i 2) (i 3) (i 4) (i 5) := by kernel_rfl
theorem ran : ranH us (fun _ _ => .auto) rk 2 tree = true := by kernel_rfl
theorem fineT : fineH 2 rk tree = true := by kernel_rfl
theorem ok : RhOk (cxOf 2) rk.rh := okH us_ok ran fineT (by kernel_rfl) okk fun i v ro p hρ hpre => by rw [plain]; have q := hρ.hi; exact holds _ _ _ _ _ _ (q 0 _ rfl).1 (q 0 _ rfl).2 (q 1 _ rfl).1 (q 1 _ rfl).2 (q 2 _ rfl).1 (q 2 _ rfl).2 (hpre _ (mg 0 rfl))
end CLUse
namespace CLPlc
def rk : Rk := ⟨12, [(0, 1000000), (0, 1000000)], 5, [.ptr 0 0, .str (.v 4)], [.cells [.mp 1, .sl (.own 2) 2 (.c 0) (.v 1) none] 41 none, .map (.str) (.int .i64) (.v 2) (.v 0), .arr [.str, .int .i64] 49 (.v 3) (.v 1)], [], .tup [.int .i64 (.v 1000000), .bool (.v 1000001)], [.cells [.mp 1, .sl (.own 2) 2 (.c 0) (.v 1) none] 41 none, .map (.str) (.int .i64) (.v 2) (.v 0), .arr [.str, .int .i64] 49 (.v 3) (.v 1)], [.num (.ite (.b .le .i64 (.c 0) (.f 26 (.v 2) (.v 0) (.v 4))) (.w .i64 (.f 13 (.f 13 (.v 2) (.f 26 (.v 2) (.v 0) (.v 4)) (.c 0)) (.c 1) (.c 0))) (.c 0)), .bool (.b .le .i64 (.c 0) (.f 26 (.v 2) (.v 0) (.v 4)))], []⟩
theorem okk : rk.ok = true := by kernel_rfl
theorem okh : rk.rh.ok = true := by kernel_rfl
noncomputable def us : SMs := fun Γ ins n => smH (cxG n Γ ins) [] (smR (cxG n Γ ins) [])
theorem us_ok : SMsOk us := fun Γ ins n => smH_ok (tabsG n Γ ins) (rhs_nil _) (smR_ok (tabsG n Γ ins) (rcs_nil _))
def tree : TT (List E) :=
(.new 1000 (.ite (.b .le .i64 (.c 0) (.f 26 (.v 2) (.v 0) (.v 4))) (.w .i64 (.f 13 (.f 13 (.v 2) (.f 26 (.v 2) (.v 0) (.v 4)) (.c 0)) (.c 1) (.c 0))) (.c 0))
 (.leaf [(.cl 1000 (-9223372036854775808) 9223372036854775807), (.b .le .i64 (.c 0) (.f 26 (.v 2) (.v 0) (.v 4)))]))
def P (n u q uq s : Int) : Prop :=
 ∀ y1000 : Int, y1000 = (iteZ (qQj (decide (0 ≤ (mfsZ q n s)))) (IntKind.wrap .i64 (rdZ (rdZ q (mfsZ q n s)) 1)) 0) → ((-9223372036854775808) ≤ y1000 ∧ y1000 ≤ 9223372036854775807) →
 (y1000 : Int) = (iteZ (qQj (decide (0 ≤ (mfsZ q n s)))) (IntKind.wrap .i64 (rdZ (rdZ q (mfsZ q n s)) 1)) 0) ∧ (((qQj (decide (0 ≤ (mfsZ q n s)))) : Int) ≠ 0 ↔ ((qQj (decide (0 ≤ (mfsZ q n s)))) : Int) ≠ 0) ∧ True
theorem holds (n u q uq s : Int) (l_n : 0 ≤ n) (u_n : n ≤ 1000000) (l_u : 0 ≤ u) (u_u : u ≤ 1000000) : P n u q uq s := by
 unfold P
 intro y hy _
 exact ⟨hy, Iff.rfl, trivial⟩
theorem plain (i v ro p) : statH 2 rk tree ⟨i, fN, v, ro, p⟩ = P (i 0) (i 1) (i 2) (i 3) (i 4) := by kernel_rfl
theorem ran : ranH us (fun _ _ => .auto) rk 2 tree = true := by kernel_rfl
theorem fineT : fineH 2 rk tree = true := by kernel_rfl
theorem ok : RhOk (cxOf 2) rk.rh := okH us_ok ran fineT (by kernel_rfl) okk fun i v ro p hρ hpre => by rw [plain]; have q := hρ.hi; exact holds _ _ _ _ _ (q 0 _ rfl).1 (q 0 _ rfl).2 (q 1 _ rfl).1 (q 1 _ rfl).2
end CLPlc
namespace CLRes
def rk : Rk := ⟨8, [(0, 1000000), (0, 1000000)], 4, [.ptr 0 0], [.cells [.mp 1, .sl (.own 2) 2 (.c 0) (.v 1) none] 41 none, .map (.str) (.int .i64) (.v 2) (.v 0), .arr [.str, .int .i64] 49 (.v 3) (.v 1)], [], .tup [.sl (.own 3) 2 (.c 0) (.v 1000000) none, .str (.v 1000002), .int .i64 (.v 1000001)], [.cells [.mp 1, .sl (.own 2) 2 (.c 0) (.v 1) none] 41 none, .map (.str) (.int .i64) (.v 2) (.v 0), .arr [.str, .int .i64] 49 (.v 3) (.v 1), .arr [.int .i64, .int .i64] 45 (.v 1000003) (.v 1000000)], [.num (.ite (.b .lt .i64 (.f 150 (.v 2) (.v 0) (qZk [(.v 3), (.v 1)])) (.c 0)) (.v 1) (.c 0)), .num (.ite (.b .lt .i64 (.f 150 (.v 2) (.v 0) (qZk [(.v 3), (.v 1)])) (.c 0)) (.c 0) (.c 10)), .str (.ite (.b .lt .i64 (.f 150 (.v 2) (.v 0) (qZk [(.v 3), (.v 1)])) (.c 0)) (.f 11 (.c 0) (.f 11 (.c 0) (.c 0) (.c 0)) (.c 0)) (.f 13 (.f 13 (.v 3) (.f 150 (.v 2) (.v 0) (qZk [(.v 3), (.v 1)])) (.c 0)) (.c 0) (.c 0))), .code [.int .i64, .int .i64] (.f 151 (.v 2) (.v 0) (qZk [(.v 3), (.v 1)])) (.ite (.b .lt .i64 (.f 150 (.v 2) (.v 0) (qZk [(.v 3), (.v 1)])) (.c 0)) (.v 1) (.c 0))], []⟩
theorem okk : rk.ok = true := by kernel_rfl
theorem okh : rk.rh.ok = true := by kernel_rfl
noncomputable def us : SMs := fun Γ ins n => smH (cxG n Γ ins) [CLPlc.rk.rh] (smAnd 17 (libAs Γ ins n) (smR (cxG n Γ ins) []))
theorem us_ok : SMsOk us := fun Γ ins n => smH_ok (tabsG n Γ ins) (qKq CLPlc.okh (rh_n CLPlc.ok) (rhs_nil _)) (smAnd_ok (libAs_ok Γ ins n) (smR_ok (tabsG n Γ ins) (rcs_nil _)))
def Q0 : E := (.cl 1002 0 4611686018427387904)
def Q1 : E := (tR (.v 3) Q0)
def Q2 : E := (tR Q1 (.c 0))
def Q3 : E := (.f 26 (.v 2) (.v 0) Q2)
def Q4 : E := (tl (.c 0) Q3)
def Q5 : E := (.cl 1001 0 1000000)
def Q6 : E := (tp Q5 (.c 1))
def Q7 : E := (tl Q6 (.c 1000000))
def Q8 : E := (tp Q0 (.c 1))
def tree : TT (List E) :=
 (.loop ⟨1000, [none, some (0, 1000000), some (0, 4611686018427387904)], [(.c 0), (.c 0), (.c 0)], 1004⟩ (.br (tk Q0 (.v 1)) (.br (.nt Q4) (.exit 0) (.br Q7 (.br Q7 (.br (tl Q8 (.c 4611686018427387904)) (.back [(.f 14 (.v 1000) Q5 (tC (t6 (tR Q1 (.c 1))) (tC (.ite Q4 (t6 (tR (tR (.v 2) Q3) (.c 1))) (.c 0)) (.c 0)))), Q6, Q8]) (.bad 303)) (.bad 303)) (.bad 200))) (.exit 1)) (.br (te (.v 1004) (.c 0)) (.leaf [(.c 0), (.c 10), Q2, (.c 0)]) (.leaf [Q5, (.c 0), (tC (.c 0) (tC (.c 0) (.c 0))), (.v 1000)])))
def sL0 (c a d b z0 z2 z4 z6 : Int) : Prop := (z0 : Int) = (iteZ (Pl (lckZ c a (kZ d (kZ b 0))) 0) b 0) ∧ (z2 : Int) = (iteZ (Pl (lckZ c a (kZ d (kZ b 0))) 0) 0 10) ∧ qQk z4 = qQk (iteZ (Pl (lckZ c a (kZ d (kZ b 0))) 0) (kZ 0 (kZ 0 0)) (rdZ (rdZ d (lckZ c a (kZ d (kZ b 0)))) 0)) ∧ qKw [.int .i64, .int .i64] z6 (fixZ c a (kZ d (kZ b 0))) (iteZ (Pl (lckZ c a (kZ d (kZ b 0))) 0) b 0) ∧ True
def P (a b c d : Int) : Prop :=
 ∃ I1000 : Int → Int → Int → Nat → Prop, (∃ m, I1000 0 0 0 m) ∧ ∀ y0 y1 y2 : Int, ∀ m0, (True ∧ (0 ≤ y1 ∧ y1 ≤ 1000000) ∧ (0 ≤ y2 ∧ y2 ≤ 4611686018427387904) ∧ True) → I1000 y0 y1 y2 m0 → (Pb (Pl y2 b) (Pb (Pe (PL 0 (mfsZ c a (rdZ (rdZ d y2) 0))) 0) (Pb (Pe (0 : Int) 0) (sL0 c a d b 0 10 (rdZ (rdZ d y2) 0) 0) (sL0 c a d b y1 0 (kZ 0 (kZ 0 0)) y0)) (Pm (PL (y1 + 1) 1000000) (Pm (PL (y1 + 1) 1000000) (Pm (PL (y2 + 1) 4611686018427387904) (∃ m', m' < m0 ∧ I1000 (updZ y0 y1 (kZ (W6 (rdZ (rdZ d y2) 1)) (kZ (iteZ (PL 0 (mfsZ c a (rdZ (rdZ d y2) 0))) (W6 (rdZ (rdZ c (mfsZ c a (rdZ (rdZ d y2) 0))) 1)) 0) 0))) (y1 + 1) (y2 + 1) m'))))) (Pb (Pe (1 : Int) 0) (sL0 c a d b 0 10 (rdZ (rdZ d y2) 0) 0) (sL0 c a d b y1 0 (kZ 0 (kZ 0 0)) y0)))
theorem holds (n u q uq : Int) (l_n : 0 ≤ n) (u_n : n ≤ 1000000) (l_u : 0 ≤ u) (u_u : u ≤ 1000000) : P n u q uq := by
 delta P sL0 Pb Pm PL Pl Pe W6 kZ
 simp only [nrm, Int.reduceEq, Int.reduceNeg, reduceIte]
 refine ⟨fun y k i m => k = i ∧ 0 ≤ i ∧ i ≤ u ∧ m = (u - i).toNat ∧ (∀ j : Nat, (j : Int) < i → 0 ≤ mfsZ q n (rdZ (rdZ uq j) 0)) ∧ Rw y ((List.range i.toNat).map (fixF q n uq)), ⟨_, rfl, by omega, by omega, rfl, fun j hj => by omega, Rw.nil _⟩, ?_⟩
 rintro y k i m _ ⟨rfl, h0, h1, rfl, hI, hR⟩
 refine ⟨fun hi => ⟨fun hs => ?_, fun hs => ?_⟩, fun hi => ?_⟩
 ·have hf := lck_at (q := q) (n := n) (uq := uq) (u := u) (k := k.toNat) u_u (by omega) (by rw [Int.toNat_of_nonneg h0]; omega) (fun j hj => hI j (by omega))
  rw [Int.toNat_of_nonneg h0] at hf
  rw [hf, if_neg (by omega), if_neg (by omega), if_neg (by omega)]
  exact ⟨rfl, rfl, rfl, rowEq_nil _ _ _ (by omega)⟩
 ·refine ⟨fun _ => ⟨fun _ => ⟨fun _ => ⟨_, ?_, rfl, by omega, by omega, rfl, fun j hj => ?_, ?_⟩, fun h => by omega⟩, fun h => by omega⟩, fun h => by omega⟩
  ·omega
  ·by_cases e : (j : Int) = k
   ·rw [e]; omega
   ·exact hI j (by omega)
  ·have hs' : 0 ≤ mfsZ q n (rdZ (rdZ uq k) 0) := by omega
   rw [if_pos hs']
   exact fix_snoc h0 hR
 ·have hf := lck_no (q := q) (n := n) (uq := uq) (u := u) l_u u_u (fun j hj => hI j (by omega))
  rw [hf, if_pos (by decide), if_pos (by decide), if_pos (by decide)]
  refine ⟨by omega, rfl, rfl, ?_⟩
  rw [fix_eq]
  have e : k.toNat = u.toNat := by omega
  rw [e] at hR
  exact Go.Eng.Rw.eq hR (by rw [List.length_map, List.length_range]; omega)
theorem plain (i v ro p) : statH 2 rk tree ⟨i, fN, v, ro, p⟩ = P (i 0) (i 1) (i 2) (i 3) := by kernel_rfl
theorem ran : ranH us (fun _ _ => .auto) rk 2 tree = true := by kernel_rfl
theorem fineT : fineH 2 rk tree = true := by kernel_rfl
theorem ok : RhOk (cxOf 2) rk.rh := okH us_ok ran fineT (by kernel_rfl) okk fun i v ro p hρ hpre => by rw [plain]; have q := hρ.hi; exact holds _ _ _ _ (q 0 _ rfl).1 (q 0 _ rfl).2 (q 1 _ rfl).1 (q 1 _ rfl).2
end CLRes
namespace CRSame19
def rc : Rc := ⟨9, [none, none], [.row [.int .i64, .int .i64] 1000000, .row [.int .i64, .int .i64] 1000000], [], .one, [.bool (.ite (.b .eq .i64 (.v 0) (.v 1)) (.f 149 (.v 2) (.v 3) (.v 0)) (.c 0))]⟩
theorem okb : rc.ok = true := by kernel_rfl
noncomputable def us : SMs := fun Γ ins n => smH (cxG n Γ ins) [] (smR (cxG n Γ ins) [])
theorem us_ok : SMsOk us := fun Γ ins n => smH_ok (tabsG n Γ ins) (rhs_nil _) (smR_ok (tabsG n Γ ins) (rcs_nil _))
def Q0 : E := (.cl 1000 0 4611686018427387904)
def Q1 : E := (tR (.v 2) Q0)
def Q2 : E := (tR (.v 3) Q0)
def Q3 : E := (tp Q0 (.c 1))
def tree : TT (List E) :=
 (.br (tn (.v 0) (.v 1)) (.leaf [(.c 0)]) (.loop ⟨1000, [some (0, 4611686018427387904)], [(.c 0)], 1006⟩ (.br (tk Q0 (.v 0)) (.new 1002 (t6 (tR Q1 (.c 0))) (.new 1003 (t6 (tR Q1 (.c 1))) (.br (tk Q0 (.v 1)) (.new 1004 (t6 (tR Q2 (.c 0))) (.new 1005 (t6 (tR Q2 (.c 1))) (.br (.nt (.ite (te (.cl 1002 (-9223372036854775808) 9223372036854775807) (.cl 1004 (-9223372036854775808) 9223372036854775807)) (te (.cl 1003 (-9223372036854775808) 9223372036854775807) (.cl 1005 (-9223372036854775808) 9223372036854775807)) (.c 0))) (.exit 0) (.br (tl Q3 (.c 4611686018427387904)) (.back [Q3]) (.bad 303))))) (.bad 200)))) (.exit 1)) (.br (te (.v 1006) (.c 0)) (.leaf [(.c 0)]) (.leaf [(.c 1)]))))
def P (a b c d e f : Int) : Prop :=
 (Pb (Pd a b) (((0 : Int) ≠ 0 ↔ ((iteZ (Pe a b) (smfZ c d a) 0) : Int) ≠ 0) ∧ True) (∃ I1000 : Int → Nat → Prop, (∃ m, I1000 0 m) ∧ ∀ y0 : Int, ∀ m0, ((0 ≤ y0 ∧ y0 ≤ 4611686018427387904) ∧ True) → I1000 y0 m0 → (Pb (Pl y0 a) (Pn (W6 (rdZ (rdZ c y0) 0)) (-9223372036854775808) 9223372036854775807 fun y2 => Pn (W6 (rdZ (rdZ c y0) 1)) (-9223372036854775808) 9223372036854775807 fun y3 => (Pm (Pl y0 b) (Pn (W6 (rdZ (rdZ d y0) 0)) (-9223372036854775808) 9223372036854775807 fun y4 => Pn (W6 (rdZ (rdZ d y0) 1)) (-9223372036854775808) 9223372036854775807 fun y5 => (Pb (Pe (iteZ (Pe y2 y4) (Pe y3 y5) 0) 0) (Pb (Pe (0 : Int) 0) (((0 : Int) ≠ 0 ↔ ((iteZ (Pe a b) (smfZ c d a) 0) : Int) ≠ 0) ∧ True) (((1 : Int) ≠ 0 ↔ ((iteZ (Pe a b) (smfZ c d a) 0) : Int) ≠ 0) ∧ True)) (Pm (PL (y0 + 1)
 4611686018427387904) (∃ m', m' < m0 ∧ I1000 (y0 + 1) m')))))) (Pb (Pe (1 : Int) 0) (((0 : Int) ≠ 0 ↔ ((iteZ (Pe a b) (smfZ c d a) 0) : Int) ≠ 0) ∧ True) (((1 : Int) ≠ 0 ↔ ((iteZ (Pe a b) (smfZ c d a) 0) : Int) ≠ 0) ∧ True)))))
theorem holds (n0 n1 c0 c1 r0 r1 : Int) (l_n0 : 0 ≤ n0) (u_n0 : n0 ≤ 1000000) (l_n1 : 0 ≤ n1) (u_n1 : n1 ≤ 1000000) (h_n0 : n0 ≤ r0) (h_n1 : n1 ≤ r1) : P n0 n1 c0 c1 r0 r1 := by
 delta P Pb Pm Pn PL Pl Pe Pd W6
 simp only [nrm, Int.reduceEq, Int.reduceNeg, reduceIte]
 refine And.intro (fun h => by simp [h]) (fun h => ?_)
 have h : n0 = n1 := h
 subst h
 refine ⟨fun i m => 0 ≤ i ∧ m = (n0 - i).toNat ∧ ∀ j : Nat, (j : Int) < i → qQa [.int .i64, .int .i64] (rdZ c0 j) = qQa [.int .i64, .int .i64] (rdZ c1 j), ⟨_, by omega, rfl, fun j hj => by omega⟩, ?_⟩
 rintro i m hb ⟨h0, rfl, hI⟩
 have e0 : ∀ c : Int, qQa [.int .i64, .int .i64] (rdZ c i) = [.int .i64 (IntKind.wrap .i64 (rdZ (rdZ c i) 0)), .int .i64 (IntKind.wrap .i64 (rdZ (rdZ c i) 1))] := fun c => rfl
 refine And.intro (fun hi a ha _ b hb1 _ => And.intro (fun _ c hc _ d hd _ => And.intro (fun hz => ?_) (fun hz => And.intro (fun _ => ⟨_, ?_, by omega, rfl, fun j hj => ?_⟩) (fun h => by omega))) (fun h => by omega)) (fun hi => ?_)
 ·subst ha hb1 hc hd
  have hne : smfZ c0 c1 n0 = 0 := by
   unfold smfZ
   refine if_neg fun g => ?_
   have := g i.toNat (by omega)
   rw [show ((i.toNat : Nat) : Int) = i by omega, e0, e0] at this
   simp only [List.cons.injEq, Value.int.injEq, true_and, and_true] at this
   rw [this.1, this.2] at hz
   simp [qQj] at hz
  simp [hne]
 ·omega
 ·by_cases e : (j : Int) = i
  ·subst ha hb1 hc hd
   rw [e, e0, e0]
   by_cases g1 : IntKind.wrap .i64 (rdZ (rdZ c0 i) 0) = IntKind.wrap .i64 (rdZ (rdZ c1 i) 0)
   ·by_cases g2 : IntKind.wrap .i64 (rdZ (rdZ c0 i) 1) = IntKind.wrap .i64 (rdZ (rdZ c1 i) 1)
    ·rw [g1, g2]
    ·exfalso
     have g3 := beq_eq_false_iff_ne.2 g2
     simp [g1, g3, qQj] at hz
   ·simp [g1] at hz
  ·exact hI j (by omega)
 ·unfold smfZ
  rw [if_pos fun j hj => hI j (by omega)]
  simp
theorem plain (i v ro p) : statR 2 rc tree ⟨i, fN, v, ro, p⟩ = P (i 0) (i 1) (i 2) (i 3) (i 4) (i 5) := by kernel_rfl
theorem ran : ranR us (fun _ _ => .auto) rc 2 tree = true := by kernel_rfl
theorem fineT : fineR 2 rc tree = true := by kernel_rfl
theorem ok : RcOk (cxOf 2) rc := okR us_ok ran fineT okb fun i v ro p hρ hcap hpre => by rw [plain]; have q := hρ.hi; exact holds _ _ _ _ _ _ (q 0 _ rfl).1 (q 0 _ rfl).2 (q 1 _ rfl).1 (q 1 _ rfl).2 (hcap _ (mg 0 rfl)) (hcap _ (mg 1 rfl))
end CRSame19
namespace CRTexts14
def rc : Rc := ⟨10, [none, none], [.row [.str] 1000000, .row [.str] 1000000], [], .one, [.bool (.ite (.b .eq .i64 (.v 0) (.v 1)) (.f 145 (.v 2) (.v 3) (.v 0)) (.c 0))]⟩
theorem okb : rc.ok = true := by kernel_rfl
noncomputable def us : SMs := fun Γ ins n => smH (cxG n Γ ins) [] (smR (cxG n Γ ins) [])
theorem us_ok : SMsOk us := fun Γ ins n => smH_ok (tabsG n Γ ins) (rhs_nil _) (smR_ok (tabsG n Γ ins) (rcs_nil _))
def tree : TT (List E) :=
(.br (.b .ne .i64 (.v 0) (.v 1))
 (.leaf [(.c 0)])
 (.loop ⟨1000, [some (0, 4611686018427387904)], [(.c 0)], 1002⟩
 (.br (.b .lt .i64 (.cl 1000 0 4611686018427387904) (.v 0))
 (.br (.b .lt .i64 (.cl 1000 0 4611686018427387904) (.v 1))
 (.br (.nt (.f 20 (.f 13 (.v 2) (.cl 1000 0 4611686018427387904) (.c 0)) (.f 13 (.v 3) (.cl 1000 0 4611686018427387904) (.c 0)) (.c 0)))
 (.exit 0)
 (.br (.b .le .i64 (.b .padd .i64 (.cl 1000 0 4611686018427387904) (.c 1)) (.c 4611686018427387904))
 (.back [(.b .padd .i64 (.cl 1000 0 4611686018427387904) (.c 1))])
 (.bad 303)))
 (.bad 200))
 (.exit 1))
 (.br (.b .eq .i64 (.v 1002) (.c 0))
 (.leaf [(.c 0)])
 (.leaf [(.c 1)]))))
def P (n0 n1 c0 c1 r0 r1 : Int) : Prop :=
 (((qQj (n0 != n1)) ≠ 0 →
  ((0 : Int) ≠ 0 ↔ ((iteZ (qQj (n0 == n1)) (samT c0 c1 n0) 0) : Int) ≠ 0) ∧ True) ∧ ((qQj (n0 != n1)) = 0 →
  ∃ I1000 : Int → Nat → Prop, (∃ m, I1000 0 m) ∧
  ∀ y1000 : Int, ∀ m1000, ((0 ≤ y1000 ∧ y1000 ≤ 4611686018427387904) ∧ True) → I1000 y1000 m1000 →
   (((qQj (decide (y1000 < n0))) ≠ 0 →
    (((qQj (decide (y1000 < n1))) ≠ 0 →
     (((qQj ((seqZ (rdZ c0 y1000) (rdZ c1 y1000)) == 0)) ≠ 0 →
      (((qQj ((0 : Int) == 0)) ≠ 0 →
       ((0 : Int) ≠ 0 ↔ ((iteZ (qQj (n0 == n1)) (samT c0 c1 n0) 0) : Int) ≠ 0) ∧ True) ∧ ((qQj ((0 : Int) == 0)) = 0 →
       ((1 : Int) ≠ 0 ↔ ((iteZ (qQj (n0 == n1)) (samT c0 c1 n0) 0) : Int) ≠ 0) ∧ True))) ∧ ((qQj ((seqZ (rdZ c0 y1000) (rdZ c1 y1000)) == 0)) = 0 →
      (((qQj (decide ((y1000 + 1) ≤ 4611686018427387904))) ≠ 0 →
       ∃ m', m' < m1000 ∧ I1000 (y1000 + 1) m') ∧ ((qQj (decide ((y1000 + 1) ≤ 4611686018427387904))) = 0 →
       False))))) ∧ ((qQj (decide (y1000 < n1))) = 0 →
     False))) ∧ ((qQj (decide (y1000 < n0))) = 0 →
    (((qQj ((1 : Int) == 0)) ≠ 0 →
     ((0 : Int) ≠ 0 ↔ ((iteZ (qQj (n0 == n1)) (samT c0 c1 n0) 0) : Int) ≠ 0) ∧ True) ∧ ((qQj ((1 : Int) == 0)) = 0 →
     ((1 : Int) ≠ 0 ↔ ((iteZ (qQj (n0 == n1)) (samT c0 c1 n0) 0) : Int) ≠ 0) ∧ True))))))
theorem holds (n0 n1 c0 c1 r0 r1 : Int) (l_n0 : 0 ≤ n0) (u_n0 : n0 ≤ 1000000) (l_n1 : 0 ≤ n1) (u_n1 : n1 ≤ 1000000) (h_n0 : n0 ≤ r0) (h_n1 : n1 ≤ r1) : P n0 n1 c0 c1 r0 r1 := by
 unfold P
 simp only [nrm, Int.reduceEq, Int.reduceNeg, reduceIte]
 refine And.intro (fun h => by rw [if_neg h]) (fun h => ?_)
 subst h
 rw [if_pos rfl]
 refine ⟨fun i m => 0 ≤ i ∧ m = (n0 - i).toNat ∧ ∀ j : Nat, (j : Int) < i → qQk (rdZ c0 j) = qQk (rdZ c1 j), ⟨_, by omega, rfl, fun j hj => by omega⟩, ?_⟩
 rintro i m hb ⟨h0, rfl, hI⟩
 refine And.intro (fun hi => And.intro (fun _ => And.intro (fun hz => ?_) (fun hz => And.intro (fun _ => ⟨_, ?_, by omega, rfl, fun j hj => ?_⟩) (fun h => by omega))) (fun h => by omega)) (fun hi => ?_)
 ·unfold samT
  rw [if_neg]
  intro g
  have := g i.toNat (by omega)
  rw [show ((i.toNat : Nat) : Int) = i by omega] at this
  exact ((seqZ_iff _ _).2 this) hz
 ·omega
 ·by_cases e : (j : Int) = i
  ·rw [e]; exact (seqZ_iff _ _).1 hz
  ·exact hI j (by omega)
 ·unfold samT
  rw [if_pos fun j hj => hI j (by omega)]
  decide
theorem plain (i v ro p) : statR 2 rc tree ⟨i, fN, v, ro, p⟩ = P (i 0) (i 1) (i 2) (i 3) (i 4) (i 5) := by kernel_rfl
theorem ran : ranR us (fun _ _ => .auto) rc 2 tree = true := by kernel_rfl
theorem fineT : fineR 2 rc tree = true := by kernel_rfl
theorem ok : RcOk (cxOf 2) rc := okR us_ok ran fineT okb fun i v ro p hρ hcap hpre => by rw [plain]; have q := hρ.hi; exact holds _ _ _ _ _ _ (q 0 _ rfl).1 (q 0 _ rfl).2 (q 1 _ rfl).1 (q 1 _ rfl).2 (hcap _ (mg 0 rfl)) (hcap _ (mg 1 rfl))
end CRTexts14
namespace CAwake19
def rc : Rc := ⟨4, [], [], [], .one, [.bool (.c 1)]⟩
theorem okb : rc.ok = true := by kernel_rfl
noncomputable def us : SMs := fun Γ ins n => smH (cxG n Γ ins) [CLDef.rk.rh, CLUse.rk.rh, CLRes.rk.rh, CLPlc.rk.rh] (smAnd 11 (libNames Γ ins n) (smR (cxG n Γ ins) [CRSame19.rc, CPIs.rc]))
theorem us_ok : SMsOk us := fun Γ ins n => smH_ok (tabsG n Γ ins) (qKq CLDef.okh (rh_n CLDef.ok) (qKq CLUse.okh (rh_n CLUse.ok) (qKq CLRes.okh (rh_n CLRes.ok) (qKq CLPlc.okh (rh_n CLPlc.ok) (rhs_nil _))))) (smAnd_ok (libNames_ok Γ ins n) (smR_ok (tabsG n Γ ins) (rcs_cons CRSame19.okb (rc_n CRSame19.ok) (rcs_cons CPIs.okb (rc_n CPIs.ok) (rcs_nil _)))))
def Q0 : E := (tC (.c 97) (.c 0))
def Q1 : E := (tC Q0 (.c 0))
def Q2 : E := (tC (.c 1) Q1)
def Q3 : E := (.f 53 Q2 (.c 0) (.c 0))
def Q4 : E := (.f 26 (.c 0) (.c 0) Q2)
def Q5 : E := (tl (.c 0) Q4)
def Q6 : E := (.ite Q5 (.c 0) (.c 1))
def Q7 : E := (.ite Q3 Q6 (.c 0))
def Q8 : E := (tC (.c 7) (.c 0))
def Q9 : E := (tC Q2 Q8)
def Q10 : E := (.f 14 (.c 0) (.c 0) Q9)
def Q11 : E := (.ite Q7 Q10 (.c 0))
def Q12 : E := (.f 26 Q11 (.cl 1001 0 1) Q2)
def Q13 : E := (tl (.c 0) Q12)
def Q14 : E := (.ite Q13 (.c 0) (.c 1))
def Q15 : E := (.ite Q3 Q14 (.c 0))
def Q16 : E := (tC (.c 65) (.c 0))
def Q17 : E := (tC Q16 (.c 0))
def Q18 : E := (tC (.c 1) Q17)
def Q19 : E := (.f 53 Q18 (.c 0) (.c 0))
def Q20 : E := (tC (.c 8) (.c 0))
def Q21 : E := (tC Q2 Q20)
def Q22 : E := (.f 14 Q11 (.cl 1001 0 1) Q21)
def Q23 : E := (.ite Q15 Q22 Q11)
def Q24 : E := (tC (.c 3) (.c 0))
def Q25 : E := (tC Q2 Q24)
def Q26 : E := (.f 14 (.c 0) (.c 0) Q25)
def Q27 : E := (.ite Q3 Q26 (.c 0))
def Q28 : E := (tC (.c 1) (.c 0))
def Q29 : E := (tC Q18 Q28)
def Q30 : E := (.f 14 Q27 (.cl 1000 0 1) Q29)
def Q31 : E := (.ite Q19 Q30 Q27)
def Q32 : E := (tC (.cl 1003 0 2) (.c 0))
def Q33 : E := (tC Q31 Q32)
def Q34 : E := (.f 150 Q23 (.cl 1002 0 2) Q33)
def Q35 : E := (tk Q34 (.c 0))
def Q36 : E := (tC (.c 0) (tC (.c 0) (.c 0)))
def tree : TT (List E) :=
 (.br (tn (.ite Q3 (.c 0) (.c 8)) (.c 0)) (.leaf [(.c 0)]) (.new 1000 Q3 (.br (tn (.ite Q3 (.ite Q5 (.c 9) (.c 0)) (.c 8)) (.c 0)) (.leaf [(.c 0)]) (.new 1001 Q7 (.br (tn (.ite Q3 (.ite Q13 (.c 9) (.c 0)) (.c 8)) (.c 9)) (.leaf [(.c 0)]) (.new 1002 (tp (.cl 1001 0 1) Q15) (.br (tn (.ite Q19 (.c 0) (.c 8)) (.c 8)) (.leaf [(.c 0)]) (.new 1003 (tp (.cl 1000 0 1) Q19) (.new 1004 (.ite Q35 (.cl 1003 0 2) (.c 0)) (.new 1005 (.ite (te (.cl 1004 0 2) (.c 1)) (.f 149 (.f 151 Q23 (.cl 1002 0 2) Q33) (tC (tC (.c 3) Q8) (.c 0)) (.cl 1004 0 2)) (.c 0)) (.br (.cl 1005 0 1) (.br (.f 20 (.ite Q35 Q36 (tR (tR Q31 Q34) (.c 0))) Q36 (.c 0)) (.br (te (.ite Q35 (.c 0) (.c 10)) (.c 0)) (.new 1006 (.f 53 (tC (.c 3) (tC (tC (.c 97) (tC (.c 95) (tC (.c 49) (.c 0)))) (.c 0))) (.c 0) (.c 0)) (.br (.cl 1006 0 1)
 (.new 1007 (.f 53 (tC (.c 2) (tC (tC (.c 49) Q0) (.c 0))) (.c 0) (.c 0)) (.leaf [(.nt (.cl 1007 0 1))])) (.leaf [(.c 0)]))) (.leaf [(.c 0)])) (.leaf [(.c 0)])) (.leaf [(.c 0)]))))))))))))
noncomputable def sq0 (y1 y2 y0 y3 : Int) : Int := (lckZ (iteZ (iteZ (isZ (kZ 1 (kZ (kZ 97 0) 0))) (iteZ (PL 0 (mfsZ (iteZ (iteZ (isZ (kZ 1 (kZ (kZ 97 0) 0))) (iteZ (PL 0 (mfsZ 0 0 (kZ 1 (kZ (kZ 97 0) 0)))) 0 1) 0) (updZ 0 0 (kZ (kZ 1 (kZ (kZ 97 0) 0)) (kZ 7 0))) 0) y1 (kZ 1 (kZ (kZ 97 0) 0)))) 0 1) 0) (updZ (iteZ (iteZ (isZ (kZ 1 (kZ (kZ 97 0) 0))) (iteZ (PL 0 (mfsZ 0 0 (kZ 1 (kZ (kZ 97 0) 0)))) 0 1) 0) (updZ 0 0 (kZ (kZ 1 (kZ (kZ 97 0) 0)) (kZ 7 0))) 0) y1 (kZ (kZ 1 (kZ (kZ 97 0) 0)) (kZ 8 0))) (iteZ (iteZ (isZ (kZ 1 (kZ (kZ 97 0) 0))) (iteZ (PL 0 (mfsZ 0 0 (kZ 1 (kZ (kZ 97 0) 0)))) 0 1) 0) (updZ 0 0 (kZ (kZ 1 (kZ (kZ 97 0) 0)) (kZ 7 0))) 0)) y2 (kZ (iteZ (isZ (kZ 1 (kZ (kZ 65 0) 0))) (updZ (iteZ (isZ (kZ 1 (kZ (kZ 97 0) 0))) (updZ 0 0 (kZ (kZ 1 (kZ (kZ 97 0) 0)) (kZ 3 0))) 0) y0 (kZ
 (kZ 1 (kZ (kZ 65 0) 0)) (kZ 1 0))) (iteZ (isZ (kZ 1 (kZ (kZ 97 0) 0))) (updZ 0 0 (kZ (kZ 1 (kZ (kZ 97 0) 0)) (kZ 3 0))) 0)) (kZ y3 0)))
noncomputable def sq1 : Int := (iteZ (iteZ (isZ (kZ 1 (kZ (kZ 97 0) 0))) (iteZ (PL 0 (mfsZ 0 0 (kZ 1 (kZ (kZ 97 0) 0)))) 0 1) 0) (updZ 0 0 (kZ (kZ 1 (kZ (kZ 97 0) 0)) (kZ 7 0))) 0)
noncomputable def sq2 : Int := (iteZ (isZ (kZ 1 (kZ (kZ 97 0) 0))) (updZ 0 0 (kZ (kZ 1 (kZ (kZ 97 0) 0)) (kZ 3 0))) 0)
def P : Prop :=
 (Pb (Pd (iteZ (isZ (kZ 1 (kZ (kZ 97 0) 0))) 0 8) 0) Pf (Pn (isZ (kZ 1 (kZ (kZ 97 0) 0))) 0 1 fun y0 => (Pb (Pd (iteZ (isZ (kZ 1 (kZ (kZ 97 0) 0))) (iteZ (PL 0 (mfsZ 0 0 (kZ 1 (kZ (kZ 97 0) 0)))) 9 0) 8) 0) Pf (Pn (iteZ (isZ (kZ 1 (kZ (kZ 97 0) 0))) (iteZ (PL 0 (mfsZ 0 0 (kZ 1 (kZ (kZ 97 0) 0)))) 0 1) 0) 0 1 fun y1 => (Pb (Pd (iteZ (isZ (kZ 1 (kZ (kZ 97 0) 0))) (iteZ (PL 0 (mfsZ sq1 y1 (kZ 1 (kZ (kZ 97 0) 0)))) 9 0) 8) 9) Pf (Pn (y1 + (iteZ (isZ (kZ 1 (kZ (kZ 97 0) 0))) (iteZ (PL 0 (mfsZ sq1 y1 (kZ 1 (kZ (kZ 97 0) 0)))) 0 1) 0)) 0 2 fun y2 => (Pb (Pd (iteZ (isZ (kZ 1 (kZ (kZ 65 0) 0))) 0 8) 8) Pf (Pn (y0 + (isZ (kZ 1 (kZ (kZ 65 0) 0)))) 0 2 fun y3 => Pn (iteZ (Pl (sq0 y1 y2 y0 y3) 0) y3 0) 0 2 fun y4 => Pn (iteZ (Pe y4 1) (smfZ (fixZ (iteZ (iteZ (isZ (kZ 1 (kZ (kZ 97 0) 0))) (iteZ (PL 0
 (mfsZ sq1 y1 (kZ 1 (kZ (kZ 97 0) 0)))) 0 1) 0) (updZ sq1 y1 (kZ (kZ 1 (kZ (kZ 97 0) 0)) (kZ 8 0))) sq1) y2 (kZ (iteZ (isZ (kZ 1 (kZ (kZ 65 0) 0))) (updZ sq2 y0 (kZ (kZ 1 (kZ (kZ 65 0) 0)) (kZ 1 0))) sq2) (kZ y3 0))) (kZ (kZ 3 (kZ 7 0)) 0) y4) 0) 0 1 fun y5 => (Pb y5 (Pb (seqZ (iteZ (Pl (sq0 y1 y2 y0 y3) 0) (kZ 0 (kZ 0 0)) (rdZ (rdZ (iteZ (isZ (kZ 1 (kZ (kZ 65 0) 0))) (updZ sq2 y0 (kZ (kZ 1 (kZ (kZ 65 0) 0)) (kZ 1 0))) sq2) (sq0 y1 y2 y0 y3)) 0)) (kZ 0 (kZ 0 0))) (Pb (Pe (iteZ (Pl (sq0 y1 y2 y0 y3) 0) 0 10) 0) (Pn (isZ (kZ 3 (kZ (kZ 97 (kZ 95 (kZ 49 0))) 0))) 0 1 fun y6 => (Pb y6 (Pn (isZ (kZ 2 (kZ (kZ 49 (kZ 97 0)) 0))) 0 1 fun y7 => ((((Pe y7 0) : Int) ≠ 0 ↔ (1 : Int) ≠ 0) ∧ True)) Pf)) Pf) Pf) Pf)))))))))
theorem holds : P := by
 delta P sq0 sq1 sq2 Pb Pn Pf PL Pl Pe Pd kZ
 simp [nrm, Int.reduceEq, Int.reduceNeg, reduceIte, is_a, is_A, is_a1, is_1a, mfs_0, mfs_1, lck_1, smf_1, qQj]
 unfold seqZ
 simp
theorem plain (i v ro p) : statR 2 rc tree ⟨i, fN, v, ro, p⟩ = P  := by kernel_rfl
theorem ran : ranR us (fun f _ => if [4].contains f then .unroll 400 else .auto) rc 2 tree = true := by kernel_rfl
theorem fineT : fineR 2 rc tree = true := by kernel_rfl
theorem ok : RcOk (cxOf 2) rc := okR us_ok ran fineT okb fun i v ro p hρ hcap hpre => by rw [plain]; have q := hρ.hi; exact holds
end CAwake19
end Go.Proofs.YtmehpgejkoaigabDoor
