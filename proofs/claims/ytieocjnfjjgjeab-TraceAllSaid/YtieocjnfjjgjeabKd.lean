/-
  What functions of the program answer, as numbers of what they are handed: their runs by the engine, the plain statements behind them. No condition.
-/
import Derived.Test.YtieocjnfjjgjeabKa
import Derived.Test.YtieocjnfjjgjeabKb
import Derived.Test.YtieocjnfjjgjeabKc
import Derived.Test.YtieocjnfjjgjeabGab
import Derived.Test.YtieocjnfjjgjeabGp1
import Derived.Test.YtieocjnfjjgjeabGp2
set_option linter.unusedVariables false
set_option linter.unusedSimpArgs false
set_option maxRecDepth 100000
namespace Go.Proofs.Ytieocjnfjjgjeab
open Go.Eng Go.RowKit
namespace CSMg3
def rk : Rk := ⟨42, [(0, 1000000), (0, 1000000), (0, 1000000), (0, 1000000)], 5, [.sl (.own 0) 4 (.c 0) (.v 0) none, .int .i64 (.v 1), .int .i64 (.v 2), .int .i64 (.v 3), .func (.func 18) [] []], [.arr [.int .i64, .int .i64, .int .i64, .int .i64] 30 (.v 4) (.v 0)], [(.b .le .i64 (.b .padd .i64 (.v 1) (.c 1)) (.v 2)), (.b .le .i64 (.b .padd .i64 (.v 2) (.c 1)) (.v 3)), (.b .le .i64 (.v 3) (.v 0)), (.b .le .i64 (.b .psub .i64 (.v 3) (.v 1)) (.c 8)), (.f 154 (.v 4) (.v 1) (.v 2)), (.f 154 (.v 4) (.v 2) (.v 3))], .tup [], [.arr [.int .i64, .int .i64, .int .i64, .int .i64] 30 (.v 1000000) (.v 0)], [.code [.int .i64, .int .i64, .int .i64, .int .i64] (.f 153 (.v 4) (.v 0) (qQs [(.v 1), (.v 3)])) (.v 0)], []⟩
theorem okk : rk.ok = true := by kernel_rfl
theorem okh : rk.rh.ok = true := by kernel_rfl
theorem holds (n a mi b q : Int) (l_n : 0 ≤ n) (u_n : n ≤ 1000000) (l_a : 0 ≤ a) (u_a : a ≤ 1000000) (l_mi : 0 ≤ mi) (u_mi : mi ≤ 1000000) (l_b : 0 ≤ b) (u_b : b ≤ 1000000) (h_pre0 : qQq (decide (a+1 ≤ mi)) ≠ 0) (h_pre1 : qQq (decide (mi+1 ≤ b)) ≠ 0) (h_pre2 : qQq (decide (b ≤ n)) ≠ 0) (h_pre3 : qQq (decide (b-a ≤ 8)) ≠ 0) (h_pre4 : (srtZ q a mi) ≠ 0) (h_pre5 : (srtZ q mi b) ≠ 0) : (0 ≤ (0  : Int) ∧ (0  : Int) ≤ 0 ∧ (2 : Int) ≠ 0 ∧ qQq (decide (a+1 ≤ mi)) ≠ 0 ∧ qQq (decide (mi+1 ≤ b)) ≠ 0 ∧ qQq (decide (b ≤ n)) ≠ 0 ∧ (srtZ q a mi) ≠ 0 ∧ (srtZ q mi b) ≠ 0 ∧ qQq (mi-a == 1) ≠ 0 ∧ qQq (0 == ((0  : Int))) ≠ 0) ∨ (0 ≤ (0  : Int) ∧ (0  : Int) ≤ 0 ∧ (2 : Int) ≠ 0 ∧ qQq (decide (a+1 ≤ mi)) ≠ 0 ∧ qQq (decide (mi+1 ≤ b)) ≠ 0 ∧ qQq (decide (b ≤ n)) ≠ 0 ∧ (srtZ q a mi) ≠ 0 ∧ (srtZ q mi b) ≠ 0 ∧ qQq (mi-a != 1) ≠ 0 ∧ qQq (b-mi == 1) ≠ 0 ∧ qQq (0 == ((0  : Int))) ≠ 0) ∨ (0 ≤ (0  : Int) ∧ (0  : Int) ≤ 0 ∧ (2 : Int) ≠ 0 ∧ qQq (decide (a+1 ≤ mi)) ≠ 0 ∧ qQq (decide (mi+1 ≤ b)) ≠ 0 ∧ qQq (decide (b ≤ n)) ≠ 0 ∧ (srtZ q a mi) ≠ 0 ∧ (srtZ q mi b) ≠ 0 ∧ qQq (decide (b-a ≤ 8)) ≠ 0 ∧ qQq (mi-a != 1) ≠ 0 ∧ qQq (b-mi != 1) ≠ 0 ∧ qQq (0 == ((0  : Int))) ≠ 0) := by
 simp only [nrm, Int.reduceEq, Int.reduceNeg, reduceIte] at *
 omega
theorem htabs : ∀ d ∈ tabsL, d.c.vb 0 = true ∧ d.n.vb 0 = true ∧ d.cap.vb 0 = true := fun d hd => by have := List.all_eq_true.1 tabsAll d hd; simp only [Bool.and_eq_true] at this; exact this
theorem ok : RhOk (cxOf 2) rk.rh := fun ρ β w hρ hpre hs => by
 obtain ⟨i, f, v, ro, p⟩ := ρ
 have hf : f = fN := hρ.hF
 subst hf
 have q := hρ.hi
 rcases holds (i 0) (i 1) (i 2) (i 3) (i 4) (q 0 _ rfl).1 (q 0 _ rfl).2 (q 1 _ rfl).1 (q 1 _ rfl).2 (q 2 _ rfl).1 (q 2 _ rfl).2 (q 3 _ rfl).1 (q 3 _ rfl).2 (hpre _ (mg 0 rfl)) (hpre _ (mg 1 rfl)) (hpre _ (mg 2 rfl)) (hpre _ (mg 3 rfl)) (hpre _ (mg 4 rfl)) (hpre _ (mg 5 rfl)) with h | h | h
 ·obtain ⟨hx1, hx2, g0, g1, g2, g3, g4, g5, g6, g7⟩ := h
  exact qQi htabs (m := rk.rh) (p := CSMa.rk.rh) rfl rfl rfl rfl rfl rfl rfl rfl CSMa.ok rfl (fun _ => rfl) (fun _ _ _ h => h) (fun _ => rfl) (fun _ _ _ h => h) (fun _ => rfl) hρ ⟨hx1, hx2⟩ (List.forall_mem_cons.2 ⟨g0, List.forall_mem_cons.2 ⟨g1, List.forall_mem_cons.2 ⟨g2, List.forall_mem_cons.2 ⟨g3, List.forall_mem_cons.2 ⟨g4, List.forall_mem_cons.2 ⟨g5, List.forall_mem_cons.2 ⟨g6, List.forall_mem_cons.2 ⟨g7, (fun _ h => by cases h)⟩⟩⟩⟩⟩⟩⟩⟩) hs
 ·obtain ⟨hx1, hx2, g0, g1, g2, g3, g4, g5, g6, g7, g8⟩ := h
  exact qQi htabs (m := rk.rh) (p := CSMb.rk.rh) rfl rfl rfl rfl rfl rfl rfl rfl CSMb.ok rfl (fun _ => rfl) (fun _ _ _ h => h) (fun _ => rfl) (fun _ _ _ h => h) (fun _ => rfl) hρ ⟨hx1, hx2⟩ (List.forall_mem_cons.2 ⟨g0, List.forall_mem_cons.2 ⟨g1, List.forall_mem_cons.2 ⟨g2, List.forall_mem_cons.2 ⟨g3, List.forall_mem_cons.2 ⟨g4, List.forall_mem_cons.2 ⟨g5, List.forall_mem_cons.2 ⟨g6, List.forall_mem_cons.2 ⟨g7, List.forall_mem_cons.2 ⟨g8, (fun _ h => by cases h)⟩⟩⟩⟩⟩⟩⟩⟩⟩) hs
 ·obtain ⟨hx1, hx2, g0, g1, g2, g3, g4, g5, g6, g7, g8, g9⟩ := h
  exact qQi htabs (m := rk.rh) (p := CSMc3.rk.rh) rfl rfl rfl rfl rfl rfl rfl rfl CSMc3.ok rfl (fun _ => rfl) (fun _ _ _ h => h) (fun _ => rfl) (fun _ _ _ h => h) (fun _ => rfl) hρ ⟨hx1, hx2⟩ (List.forall_mem_cons.2 ⟨g0, List.forall_mem_cons.2 ⟨g1, List.forall_mem_cons.2 ⟨g2, List.forall_mem_cons.2 ⟨g3, List.forall_mem_cons.2 ⟨g4, List.forall_mem_cons.2 ⟨g5, List.forall_mem_cons.2 ⟨g6, List.forall_mem_cons.2 ⟨g7, List.forall_mem_cons.2 ⟨g8, List.forall_mem_cons.2 ⟨g9, (fun _ h => by cases h)⟩⟩⟩⟩⟩⟩⟩⟩⟩⟩) hs
end CSMg3
namespace CSMc4
def rk : Rk := ⟨42, [(0, 0), (0, 1000000), (0, 1000000), (0, 1000000), (0, 1000000)], 6, [.sl (.own 0) 4 (.c 0) (.v 1) none, .int .i64 (.v 2), .int .i64 (.v 3), .int .i64 (.v 4), .func (.func 18) [] []], [.arr [.int .i64, .int .i64, .int .i64, .int .i64] 30 (.v 5) (.v 1)], [(.c 2), (.b .le .i64 (.b .padd .i64 (.v 2) (.c 1)) (.v 3)), (.b .le .i64 (.b .padd .i64 (.v 3) (.c 1)) (.v 4)), (.b .le .i64 (.v 4) (.v 1)), (.f 154 (.v 5) (.v 2) (.v 3)), (.f 154 (.v 5) (.v 3) (.v 4)), (.b .le .i64 (.b .psub .i64 (.v 4) (.v 2)) (.c 16)), (.b .ne .i64 (.b .psub .i64 (.v 3) (.v 2)) (.c 1)), (.b .ne .i64 (.b .psub .i64 (.v 4) (.v 3)) (.c 1)), (.b .eq .i64 (.c 0) (.v 0))], .tup [], [.arr [.int .i64, .int .i64, .int .i64, .int .i64] 30 (.v 1000000) (.v 1)], [.code [.int .i64, .int .i64, .int .i64, .int .i64] (.f 153 (.v 5) (.v 1) (qQs [(.v 2), (.v 4)])) (.v 1)], []⟩
theorem okk : rk.ok = true := by kernel_rfl
theorem okh : rk.rh.ok = true := by kernel_rfl
def mk42_33 : qZd := [([0, 21], .num (-9223372036854775808) (9223372036854775807)), ([0, 20], .num (-9223372036854775808) (9223372036854775807)), ([0, 23], .wilds 1), ([0, 149], .wilds 26)]
noncomputable def us : SMs := fun Γ ins n => smButH 42 rk.args (smH (cxG n Γ ins) [CSRot.rk.rh, CSMg3.rk.rh] (smR (cxG n Γ ins) [CTCmp.rc]))
theorem us_ok : SMsOk us := fun Γ ins n => qXu (qJp (tabsG n Γ ins) (qZw CSRot.okh (rh_n CSRot.ok) (qZw CSMg3.okh (rh_n CSMg3.ok) (qZp _))) (qJh (tabsG n Γ ins) (qJv CTCmp.okb (rc_n CTCmp.ok) (qZr _))))
def tree : TT (List E) := SMcF.tree 8
theorem plain (i v ro p) : statH 2 rk tree ⟨i, fN, v, ro, p⟩ = SMcF.P 8 (i 0) (i 1) (i 2) (i 3) (i 4) (i 5) := by kernel_rfl
theorem ran : ranH us (fun f i => if f = 42 then (match i with | 33 => .tmpl (some mk42_33) | _ => .auto) else .auto) rk 2 tree = true := by kernel_rfl
theorem fineT : fineH 2 rk tree = true := by kernel_rfl
theorem ok : RhOk (cxOf 2) rk.rh := okH us_ok ran fineT (by kernel_rfl) okk fun i v ro p hρ hpre => by rw [plain]; have q := hρ.hi; exact SMcF.holds 16 8 (by omega) (by omega) _ _ _ _ _ _ (q 0 _ rfl).1 (q 0 _ rfl).2 (q 1 _ rfl).1 (q 1 _ rfl).2 (q 2 _ rfl).1 (q 2 _ rfl).2 (q 3 _ rfl).1 (q 3 _ rfl).2 (q 4 _ rfl).1 (q 4 _ rfl).2 (hpre _ (mg 0 rfl)) (hpre _ (mg 1 rfl)) (hpre _ (mg 2 rfl)) (hpre _ (mg 3 rfl)) (hpre _ (mg 4 rfl)) (hpre _ (mg 5 rfl)) (hpre _ (mg 6 rfl)) (hpre _ (mg 7 rfl)) (hpre _ (mg 8 rfl)) (hpre _ (mg 9 rfl))
end CSMc4
namespace CSMg4
def rk : Rk := ⟨42, [(0, 1000000), (0, 1000000), (0, 1000000), (0, 1000000)], 5, [.sl (.own 0) 4 (.c 0) (.v 0) none, .int .i64 (.v 1), .int .i64 (.v 2), .int .i64 (.v 3), .func (.func 18) [] []], [.arr [.int .i64, .int .i64, .int .i64, .int .i64] 30 (.v 4) (.v 0)], [(.b .le .i64 (.b .padd .i64 (.v 1) (.c 1)) (.v 2)), (.b .le .i64 (.b .padd .i64 (.v 2) (.c 1)) (.v 3)), (.b .le .i64 (.v 3) (.v 0)), (.b .le .i64 (.b .psub .i64 (.v 3) (.v 1)) (.c 16)), (.f 154 (.v 4) (.v 1) (.v 2)), (.f 154 (.v 4) (.v 2) (.v 3))], .tup [], [.arr [.int .i64, .int .i64, .int .i64, .int .i64] 30 (.v 1000000) (.v 0)], [.code [.int .i64, .int .i64, .int .i64, .int .i64] (.f 153 (.v 4) (.v 0) (qQs [(.v 1), (.v 3)])) (.v 0)], []⟩
theorem okk : rk.ok = true := by kernel_rfl
theorem okh : rk.rh.ok = true := by kernel_rfl
theorem holds (n a mi b q : Int) (l_n : 0 ≤ n) (u_n : n ≤ 1000000) (l_a : 0 ≤ a) (u_a : a ≤ 1000000) (l_mi : 0 ≤ mi) (u_mi : mi ≤ 1000000) (l_b : 0 ≤ b) (u_b : b ≤ 1000000) (h_pre0 : qQq (decide (a+1 ≤ mi)) ≠ 0) (h_pre1 : qQq (decide (mi+1 ≤ b)) ≠ 0) (h_pre2 : qQq (decide (b ≤ n)) ≠ 0) (h_pre3 : qQq (decide (b-a ≤ 16)) ≠ 0) (h_pre4 : (srtZ q a mi) ≠ 0) (h_pre5 : (srtZ q mi b) ≠ 0) : (0 ≤ (0  : Int) ∧ (0  : Int) ≤ 0 ∧ (2 : Int) ≠ 0 ∧ qQq (decide (a+1 ≤ mi)) ≠ 0 ∧ qQq (decide (mi+1 ≤ b)) ≠ 0 ∧ qQq (decide (b ≤ n)) ≠ 0 ∧ (srtZ q a mi) ≠ 0 ∧ (srtZ q mi b) ≠ 0 ∧ qQq (mi-a == 1) ≠ 0 ∧ qQq (0 == ((0  : Int))) ≠ 0) ∨ (0 ≤ (0  : Int) ∧ (0  : Int) ≤ 0 ∧ (2 : Int) ≠ 0 ∧ qQq (decide (a+1 ≤ mi)) ≠ 0 ∧ qQq (decide (mi+1 ≤ b)) ≠ 0 ∧ qQq (decide (b ≤ n)) ≠ 0 ∧ (srtZ q a mi) ≠ 0 ∧ (srtZ q mi b) ≠ 0 ∧ qQq (mi-a != 1) ≠ 0 ∧ qQq (b-mi == 1) ≠ 0 ∧ qQq (0 == ((0  : Int))) ≠ 0) ∨ (0 ≤ (0  : Int) ∧ (0  : Int) ≤ 0 ∧ (2 : Int) ≠ 0 ∧ qQq (decide (a+1 ≤ mi)) ≠ 0 ∧ qQq (decide (mi+1 ≤ b)) ≠ 0 ∧ qQq (decide (b ≤ n)) ≠ 0 ∧ (srtZ q a mi) ≠ 0 ∧ (srtZ q mi b) ≠ 0 ∧ qQq (decide (b-a ≤ 16)) ≠ 0 ∧ qQq (mi-a != 1) ≠ 0 ∧ qQq (b-mi != 1) ≠ 0 ∧ qQq (0 == ((0  : Int))) ≠ 0) := by
 simp only [nrm, Int.reduceEq, Int.reduceNeg, reduceIte] at *
 omega
theorem htabs : ∀ d ∈ tabsL, d.c.vb 0 = true ∧ d.n.vb 0 = true ∧ d.cap.vb 0 = true := fun d hd => by have := List.all_eq_true.1 tabsAll d hd; simp only [Bool.and_eq_true] at this; exact this
theorem ok : RhOk (cxOf 2) rk.rh := fun ρ β w hρ hpre hs => by
 obtain ⟨i, f, v, ro, p⟩ := ρ
 have hf : f = fN := hρ.hF
 subst hf
 have q := hρ.hi
 rcases holds (i 0) (i 1) (i 2) (i 3) (i 4) (q 0 _ rfl).1 (q 0 _ rfl).2 (q 1 _ rfl).1 (q 1 _ rfl).2 (q 2 _ rfl).1 (q 2 _ rfl).2 (q 3 _ rfl).1 (q 3 _ rfl).2 (hpre _ (mg 0 rfl)) (hpre _ (mg 1 rfl)) (hpre _ (mg 2 rfl)) (hpre _ (mg 3 rfl)) (hpre _ (mg 4 rfl)) (hpre _ (mg 5 rfl)) with h | h | h
 ·obtain ⟨hx1, hx2, g0, g1, g2, g3, g4, g5, g6, g7⟩ := h
  exact qQi htabs (m := rk.rh) (p := CSMa.rk.rh) rfl rfl rfl rfl rfl rfl rfl rfl CSMa.ok rfl (fun _ => rfl) (fun _ _ _ h => h) (fun _ => rfl) (fun _ _ _ h => h) (fun _ => rfl) hρ ⟨hx1, hx2⟩ (List.forall_mem_cons.2 ⟨g0, List.forall_mem_cons.2 ⟨g1, List.forall_mem_cons.2 ⟨g2, List.forall_mem_cons.2 ⟨g3, List.forall_mem_cons.2 ⟨g4, List.forall_mem_cons.2 ⟨g5, List.forall_mem_cons.2 ⟨g6, List.forall_mem_cons.2 ⟨g7, (fun _ h => by cases h)⟩⟩⟩⟩⟩⟩⟩⟩) hs
 ·obtain ⟨hx1, hx2, g0, g1, g2, g3, g4, g5, g6, g7, g8⟩ := h
  exact qQi htabs (m := rk.rh) (p := CSMb.rk.rh) rfl rfl rfl rfl rfl rfl rfl rfl CSMb.ok rfl (fun _ => rfl) (fun _ _ _ h => h) (fun _ => rfl) (fun _ _ _ h => h) (fun _ => rfl) hρ ⟨hx1, hx2⟩ (List.forall_mem_cons.2 ⟨g0, List.forall_mem_cons.2 ⟨g1, List.forall_mem_cons.2 ⟨g2, List.forall_mem_cons.2 ⟨g3, List.forall_mem_cons.2 ⟨g4, List.forall_mem_cons.2 ⟨g5, List.forall_mem_cons.2 ⟨g6, List.forall_mem_cons.2 ⟨g7, List.forall_mem_cons.2 ⟨g8, (fun _ h => by cases h)⟩⟩⟩⟩⟩⟩⟩⟩⟩) hs
 ·obtain ⟨hx1, hx2, g0, g1, g2, g3, g4, g5, g6, g7, g8, g9⟩ := h
  exact qQi htabs (m := rk.rh) (p := CSMc4.rk.rh) rfl rfl rfl rfl rfl rfl rfl rfl CSMc4.ok rfl (fun _ => rfl) (fun _ _ _ h => h) (fun _ => rfl) (fun _ _ _ h => h) (fun _ => rfl) hρ ⟨hx1, hx2⟩ (List.forall_mem_cons.2 ⟨g0, List.forall_mem_cons.2 ⟨g1, List.forall_mem_cons.2 ⟨g2, List.forall_mem_cons.2 ⟨g3, List.forall_mem_cons.2 ⟨g4, List.forall_mem_cons.2 ⟨g5, List.forall_mem_cons.2 ⟨g6, List.forall_mem_cons.2 ⟨g7, List.forall_mem_cons.2 ⟨g8, List.forall_mem_cons.2 ⟨g9, (fun _ h => by cases h)⟩⟩⟩⟩⟩⟩⟩⟩⟩⟩) hs
end CSMg4
namespace CSMc5
def rk : Rk := ⟨42, [(0, 0), (0, 1000000), (0, 1000000), (0, 1000000), (0, 1000000)], 6, [.sl (.own 0) 4 (.c 0) (.v 1) none, .int .i64 (.v 2), .int .i64 (.v 3), .int .i64 (.v 4), .func (.func 18) [] []], [.arr [.int .i64, .int .i64, .int .i64, .int .i64] 30 (.v 5) (.v 1)], [(.c 2), (.b .le .i64 (.b .padd .i64 (.v 2) (.c 1)) (.v 3)), (.b .le .i64 (.b .padd .i64 (.v 3) (.c 1)) (.v 4)), (.b .le .i64 (.v 4) (.v 1)), (.f 154 (.v 5) (.v 2) (.v 3)), (.f 154 (.v 5) (.v 3) (.v 4)), (.b .le .i64 (.b .psub .i64 (.v 4) (.v 2)) (.c 32)), (.b .ne .i64 (.b .psub .i64 (.v 3) (.v 2)) (.c 1)), (.b .ne .i64 (.b .psub .i64 (.v 4) (.v 3)) (.c 1)), (.b .eq .i64 (.c 0) (.v 0))], .tup [], [.arr [.int .i64, .int .i64, .int .i64, .int .i64] 30 (.v 1000000) (.v 1)], [.code [.int .i64, .int .i64, .int .i64, .int .i64] (.f 153 (.v 5) (.v 1) (qQs [(.v 2), (.v 4)])) (.v 1)], []⟩
theorem okk : rk.ok = true := by kernel_rfl
theorem okh : rk.rh.ok = true := by kernel_rfl
def mk42_33 : qZd := [([0, 21], .num (-9223372036854775808) (9223372036854775807)), ([0, 20], .num (-9223372036854775808) (9223372036854775807)), ([0, 23], .wilds 1), ([0, 149], .wilds 26)]
noncomputable def us : SMs := fun Γ ins n => smButH 42 rk.args (smH (cxG n Γ ins) [CSRot.rk.rh, CSMg4.rk.rh] (smR (cxG n Γ ins) [CTCmp.rc]))
theorem us_ok : SMsOk us := fun Γ ins n => qXu (qJp (tabsG n Γ ins) (qZw CSRot.okh (rh_n CSRot.ok) (qZw CSMg4.okh (rh_n CSMg4.ok) (qZp _))) (qJh (tabsG n Γ ins) (qJv CTCmp.okb (rc_n CTCmp.ok) (qZr _))))
def tree : TT (List E) := SMcF.tree 16
theorem plain (i v ro p) : statH 2 rk tree ⟨i, fN, v, ro, p⟩ = SMcF.P 16 (i 0) (i 1) (i 2) (i 3) (i 4) (i 5) := by kernel_rfl
theorem ran : ranH us (fun f i => if f = 42 then (match i with | 33 => .tmpl (some mk42_33) | _ => .auto) else .auto) rk 2 tree = true := by kernel_rfl
theorem fineT : fineH 2 rk tree = true := by kernel_rfl
theorem ok : RhOk (cxOf 2) rk.rh := okH us_ok ran fineT (by kernel_rfl) okk fun i v ro p hρ hpre => by rw [plain]; have q := hρ.hi; exact SMcF.holds 32 16 (by omega) (by omega) _ _ _ _ _ _ (q 0 _ rfl).1 (q 0 _ rfl).2 (q 1 _ rfl).1 (q 1 _ rfl).2 (q 2 _ rfl).1 (q 2 _ rfl).2 (q 3 _ rfl).1 (q 3 _ rfl).2 (q 4 _ rfl).1 (q 4 _ rfl).2 (hpre _ (mg 0 rfl)) (hpre _ (mg 1 rfl)) (hpre _ (mg 2 rfl)) (hpre _ (mg 3 rfl)) (hpre _ (mg 4 rfl)) (hpre _ (mg 5 rfl)) (hpre _ (mg 6 rfl)) (hpre _ (mg 7 rfl)) (hpre _ (mg 8 rfl)) (hpre _ (mg 9 rfl))
end CSMc5
namespace CSMg5
def rk : Rk := ⟨42, [(0, 1000000), (0, 1000000), (0, 1000000), (0, 1000000)], 5, [.sl (.own 0) 4 (.c 0) (.v 0) none, .int .i64 (.v 1), .int .i64 (.v 2), .int .i64 (.v 3), .func (.func 18) [] []], [.arr [.int .i64, .int .i64, .int .i64, .int .i64] 30 (.v 4) (.v 0)], [(.b .le .i64 (.b .padd .i64 (.v 1) (.c 1)) (.v 2)), (.b .le .i64 (.b .padd .i64 (.v 2) (.c 1)) (.v 3)), (.b .le .i64 (.v 3) (.v 0)), (.b .le .i64 (.b .psub .i64 (.v 3) (.v 1)) (.c 32)), (.f 154 (.v 4) (.v 1) (.v 2)), (.f 154 (.v 4) (.v 2) (.v 3))], .tup [], [.arr [.int .i64, .int .i64, .int .i64, .int .i64] 30 (.v 1000000) (.v 0)], [.code [.int .i64, .int .i64, .int .i64, .int .i64] (.f 153 (.v 4) (.v 0) (qQs [(.v 1), (.v 3)])) (.v 0)], []⟩
theorem okk : rk.ok = true := by kernel_rfl
theorem okh : rk.rh.ok = true := by kernel_rfl
theorem holds (n a mi b q : Int) (l_n : 0 ≤ n) (u_n : n ≤ 1000000) (l_a : 0 ≤ a) (u_a : a ≤ 1000000) (l_mi : 0 ≤ mi) (u_mi : mi ≤ 1000000) (l_b : 0 ≤ b) (u_b : b ≤ 1000000) (h_pre0 : qQq (decide (a+1 ≤ mi)) ≠ 0) (h_pre1 : qQq (decide (mi+1 ≤ b)) ≠ 0) (h_pre2 : qQq (decide (b ≤ n)) ≠ 0) (h_pre3 : qQq (decide (b-a ≤ 32)) ≠ 0) (h_pre4 : (srtZ q a mi) ≠ 0) (h_pre5 : (srtZ q mi b) ≠ 0) : (0 ≤ (0  : Int) ∧ (0  : Int) ≤ 0 ∧ (2 : Int) ≠ 0 ∧ qQq (decide (a+1 ≤ mi)) ≠ 0 ∧ qQq (decide (mi+1 ≤ b)) ≠ 0 ∧ qQq (decide (b ≤ n)) ≠ 0 ∧ (srtZ q a mi) ≠ 0 ∧ (srtZ q mi b) ≠ 0 ∧ qQq (mi-a == 1) ≠ 0 ∧ qQq (0 == ((0  : Int))) ≠ 0) ∨ (0 ≤ (0  : Int) ∧ (0  : Int) ≤ 0 ∧ (2 : Int) ≠ 0 ∧ qQq (decide (a+1 ≤ mi)) ≠ 0 ∧ qQq (decide (mi+1 ≤ b)) ≠ 0 ∧ qQq (decide (b ≤ n)) ≠ 0 ∧ (srtZ q a mi) ≠ 0 ∧ (srtZ q mi b) ≠ 0 ∧ qQq (mi-a != 1) ≠ 0 ∧ qQq (b-mi == 1) ≠ 0 ∧ qQq (0 == ((0  : Int))) ≠ 0) ∨ (0 ≤ (0  : Int) ∧ (0  : Int) ≤ 0 ∧ (2 : Int) ≠ 0 ∧ qQq (decide (a+1 ≤ mi)) ≠ 0 ∧ qQq (decide (mi+1 ≤ b)) ≠ 0 ∧ qQq (decide (b ≤ n)) ≠ 0 ∧ (srtZ q a mi) ≠ 0 ∧ (srtZ q mi b) ≠ 0 ∧ qQq (decide (b-a ≤ 32)) ≠ 0 ∧ qQq (mi-a != 1) ≠ 0 ∧ qQq (b-mi != 1) ≠ 0 ∧ qQq (0 == ((0  : Int))) ≠ 0) := by
 simp only [nrm, Int.reduceEq, Int.reduceNeg, reduceIte] at *
 omega
theorem htabs : ∀ d ∈ tabsL, d.c.vb 0 = true ∧ d.n.vb 0 = true ∧ d.cap.vb 0 = true := fun d hd => by have := List.all_eq_true.1 tabsAll d hd; simp only [Bool.and_eq_true] at this; exact this
theorem ok : RhOk (cxOf 2) rk.rh := fun ρ β w hρ hpre hs => by
 obtain ⟨i, f, v, ro, p⟩ := ρ
 have hf : f = fN := hρ.hF
 subst hf
 have q := hρ.hi
 rcases holds (i 0) (i 1) (i 2) (i 3) (i 4) (q 0 _ rfl).1 (q 0 _ rfl).2 (q 1 _ rfl).1 (q 1 _ rfl).2 (q 2 _ rfl).1 (q 2 _ rfl).2 (q 3 _ rfl).1 (q 3 _ rfl).2 (hpre _ (mg 0 rfl)) (hpre _ (mg 1 rfl)) (hpre _ (mg 2 rfl)) (hpre _ (mg 3 rfl)) (hpre _ (mg 4 rfl)) (hpre _ (mg 5 rfl)) with h | h | h
 ·obtain ⟨hx1, hx2, g0, g1, g2, g3, g4, g5, g6, g7⟩ := h
  exact qQi htabs (m := rk.rh) (p := CSMa.rk.rh) rfl rfl rfl rfl rfl rfl rfl rfl CSMa.ok rfl (fun _ => rfl) (fun _ _ _ h => h) (fun _ => rfl) (fun _ _ _ h => h) (fun _ => rfl) hρ ⟨hx1, hx2⟩ (List.forall_mem_cons.2 ⟨g0, List.forall_mem_cons.2 ⟨g1, List.forall_mem_cons.2 ⟨g2, List.forall_mem_cons.2 ⟨g3, List.forall_mem_cons.2 ⟨g4, List.forall_mem_cons.2 ⟨g5, List.forall_mem_cons.2 ⟨g6, List.forall_mem_cons.2 ⟨g7, (fun _ h => by cases h)⟩⟩⟩⟩⟩⟩⟩⟩) hs
 ·obtain ⟨hx1, hx2, g0, g1, g2, g3, g4, g5, g6, g7, g8⟩ := h
  exact qQi htabs (m := rk.rh) (p := CSMb.rk.rh) rfl rfl rfl rfl rfl rfl rfl rfl CSMb.ok rfl (fun _ => rfl) (fun _ _ _ h => h) (fun _ => rfl) (fun _ _ _ h => h) (fun _ => rfl) hρ ⟨hx1, hx2⟩ (List.forall_mem_cons.2 ⟨g0, List.forall_mem_cons.2 ⟨g1, List.forall_mem_cons.2 ⟨g2, List.forall_mem_cons.2 ⟨g3, List.forall_mem_cons.2 ⟨g4, List.forall_mem_cons.2 ⟨g5, List.forall_mem_cons.2 ⟨g6, List.forall_mem_cons.2 ⟨g7, List.forall_mem_cons.2 ⟨g8, (fun _ h => by cases h)⟩⟩⟩⟩⟩⟩⟩⟩⟩) hs
 ·obtain ⟨hx1, hx2, g0, g1, g2, g3, g4, g5, g6, g7, g8, g9⟩ := h
  exact qQi htabs (m := rk.rh) (p := CSMc5.rk.rh) rfl rfl rfl rfl rfl rfl rfl rfl CSMc5.ok rfl (fun _ => rfl) (fun _ _ _ h => h) (fun _ => rfl) (fun _ _ _ h => h) (fun _ => rfl) hρ ⟨hx1, hx2⟩ (List.forall_mem_cons.2 ⟨g0, List.forall_mem_cons.2 ⟨g1, List.forall_mem_cons.2 ⟨g2, List.forall_mem_cons.2 ⟨g3, List.forall_mem_cons.2 ⟨g4, List.forall_mem_cons.2 ⟨g5, List.forall_mem_cons.2 ⟨g6, List.forall_mem_cons.2 ⟨g7, List.forall_mem_cons.2 ⟨g8, List.forall_mem_cons.2 ⟨g9, (fun _ h => by cases h)⟩⟩⟩⟩⟩⟩⟩⟩⟩⟩) hs
end CSMg5
namespace CSMc6
def rk : Rk := ⟨42, [(0, 0), (0, 1000000), (0, 1000000), (0, 1000000), (0, 1000000)], 6, [.sl (.own 0) 4 (.c 0) (.v 1) none, .int .i64 (.v 2), .int .i64 (.v 3), .int .i64 (.v 4), .func (.func 18) [] []], [.arr [.int .i64, .int .i64, .int .i64, .int .i64] 30 (.v 5) (.v 1)], [(.c 2), (.b .le .i64 (.b .padd .i64 (.v 2) (.c 1)) (.v 3)), (.b .le .i64 (.b .padd .i64 (.v 3) (.c 1)) (.v 4)), (.b .le .i64 (.v 4) (.v 1)), (.f 154 (.v 5) (.v 2) (.v 3)), (.f 154 (.v 5) (.v 3) (.v 4)), (.b .le .i64 (.b .psub .i64 (.v 4) (.v 2)) (.c 64)), (.b .ne .i64 (.b .psub .i64 (.v 3) (.v 2)) (.c 1)), (.b .ne .i64 (.b .psub .i64 (.v 4) (.v 3)) (.c 1)), (.b .eq .i64 (.c 0) (.v 0))], .tup [], [.arr [.int .i64, .int .i64, .int .i64, .int .i64] 30 (.v 1000000) (.v 1)], [.code [.int .i64, .int .i64, .int .i64, .int .i64] (.f 153 (.v 5) (.v 1) (qQs [(.v 2), (.v 4)])) (.v 1)], []⟩
theorem okk : rk.ok = true := by kernel_rfl
theorem okh : rk.rh.ok = true := by kernel_rfl
def mk42_33 : qZd := [([0, 21], .num (-9223372036854775808) (9223372036854775807)), ([0, 20], .num (-9223372036854775808) (9223372036854775807)), ([0, 23], .wilds 1), ([0, 149], .wilds 26)]
noncomputable def us : SMs := fun Γ ins n => smButH 42 rk.args (smH (cxG n Γ ins) [CSRot.rk.rh, CSMg5.rk.rh] (smR (cxG n Γ ins) [CTCmp.rc]))
theorem us_ok : SMsOk us := fun Γ ins n => qXu (qJp (tabsG n Γ ins) (qZw CSRot.okh (rh_n CSRot.ok) (qZw CSMg5.okh (rh_n CSMg5.ok) (qZp _))) (qJh (tabsG n Γ ins) (qJv CTCmp.okb (rc_n CTCmp.ok) (qZr _))))
def tree : TT (List E) := SMcF.tree 32
theorem plain (i v ro p) : statH 2 rk tree ⟨i, fN, v, ro, p⟩ = SMcF.P 32 (i 0) (i 1) (i 2) (i 3) (i 4) (i 5) := by kernel_rfl
theorem ran : ranH us (fun f i => if f = 42 then (match i with | 33 => .tmpl (some mk42_33) | _ => .auto) else .auto) rk 2 tree = true := by kernel_rfl
theorem fineT : fineH 2 rk tree = true := by kernel_rfl
theorem ok : RhOk (cxOf 2) rk.rh := okH us_ok ran fineT (by kernel_rfl) okk fun i v ro p hρ hpre => by rw [plain]; have q := hρ.hi; exact SMcF.holds 64 32 (by omega) (by omega) _ _ _ _ _ _ (q 0 _ rfl).1 (q 0 _ rfl).2 (q 1 _ rfl).1 (q 1 _ rfl).2 (q 2 _ rfl).1 (q 2 _ rfl).2 (q 3 _ rfl).1 (q 3 _ rfl).2 (q 4 _ rfl).1 (q 4 _ rfl).2 (hpre _ (mg 0 rfl)) (hpre _ (mg 1 rfl)) (hpre _ (mg 2 rfl)) (hpre _ (mg 3 rfl)) (hpre _ (mg 4 rfl)) (hpre _ (mg 5 rfl)) (hpre _ (mg 6 rfl)) (hpre _ (mg 7 rfl)) (hpre _ (mg 8 rfl)) (hpre _ (mg 9 rfl))
end CSMc6
namespace CSMg6
def rk : Rk := ⟨42, [(0, 1000000), (0, 1000000), (0, 1000000), (0, 1000000)], 5, [.sl (.own 0) 4 (.c 0) (.v 0) none, .int .i64 (.v 1), .int .i64 (.v 2), .int .i64 (.v 3), .func (.func 18) [] []], [.arr [.int .i64, .int .i64, .int .i64, .int .i64] 30 (.v 4) (.v 0)], [(.b .le .i64 (.b .padd .i64 (.v 1) (.c 1)) (.v 2)), (.b .le .i64 (.b .padd .i64 (.v 2) (.c 1)) (.v 3)), (.b .le .i64 (.v 3) (.v 0)), (.b .le .i64 (.b .psub .i64 (.v 3) (.v 1)) (.c 64)), (.f 154 (.v 4) (.v 1) (.v 2)), (.f 154 (.v 4) (.v 2) (.v 3))], .tup [], [.arr [.int .i64, .int .i64, .int .i64, .int .i64] 30 (.v 1000000) (.v 0)], [.code [.int .i64, .int .i64, .int .i64, .int .i64] (.f 153 (.v 4) (.v 0) (qQs [(.v 1), (.v 3)])) (.v 0)], []⟩
theorem okk : rk.ok = true := by kernel_rfl
theorem okh : rk.rh.ok = true := by kernel_rfl
theorem holds (n a mi b q : Int) (l_n : 0 ≤ n) (u_n : n ≤ 1000000) (l_a : 0 ≤ a) (u_a : a ≤ 1000000) (l_mi : 0 ≤ mi) (u_mi : mi ≤ 1000000) (l_b : 0 ≤ b) (u_b : b ≤ 1000000) (h_pre0 : qQq (decide (a+1 ≤ mi)) ≠ 0) (h_pre1 : qQq (decide (mi+1 ≤ b)) ≠ 0) (h_pre2 : qQq (decide (b ≤ n)) ≠ 0) (h_pre3 : qQq (decide (b-a ≤ 64)) ≠ 0) (h_pre4 : (srtZ q a mi) ≠ 0) (h_pre5 : (srtZ q mi b) ≠ 0) : (0 ≤ (0  : Int) ∧ (0  : Int) ≤ 0 ∧ (2 : Int) ≠ 0 ∧ qQq (decide (a+1 ≤ mi)) ≠ 0 ∧ qQq (decide (mi+1 ≤ b)) ≠ 0 ∧ qQq (decide (b ≤ n)) ≠ 0 ∧ (srtZ q a mi) ≠ 0 ∧ (srtZ q mi b) ≠ 0 ∧ qQq (mi-a == 1) ≠ 0 ∧ qQq (0 == ((0  : Int))) ≠ 0) ∨ (0 ≤ (0  : Int) ∧ (0  : Int) ≤ 0 ∧ (2 : Int) ≠ 0 ∧ qQq (decide (a+1 ≤ mi)) ≠ 0 ∧ qQq (decide (mi+1 ≤ b)) ≠ 0 ∧ qQq (decide (b ≤ n)) ≠ 0 ∧ (srtZ q a mi) ≠ 0 ∧ (srtZ q mi b) ≠ 0 ∧ qQq (mi-a != 1) ≠ 0 ∧ qQq (b-mi == 1) ≠ 0 ∧ qQq (0 == ((0  : Int))) ≠ 0) ∨ (0 ≤ (0  : Int) ∧ (0  : Int) ≤ 0 ∧ (2 : Int) ≠ 0 ∧ qQq (decide (a+1 ≤ mi)) ≠ 0 ∧ qQq (decide (mi+1 ≤ b)) ≠ 0 ∧ qQq (decide (b ≤ n)) ≠ 0 ∧ (srtZ q a mi) ≠ 0 ∧ (srtZ q mi b) ≠ 0 ∧ qQq (decide (b-a ≤ 64)) ≠ 0 ∧ qQq (mi-a != 1) ≠ 0 ∧ qQq (b-mi != 1) ≠ 0 ∧ qQq (0 == ((0  : Int))) ≠ 0) := by
 simp only [nrm, Int.reduceEq, Int.reduceNeg, reduceIte] at *
 omega
theorem htabs : ∀ d ∈ tabsL, d.c.vb 0 = true ∧ d.n.vb 0 = true ∧ d.cap.vb 0 = true := fun d hd => by have := List.all_eq_true.1 tabsAll d hd; simp only [Bool.and_eq_true] at this; exact this
theorem ok : RhOk (cxOf 2) rk.rh := fun ρ β w hρ hpre hs => by
 obtain ⟨i, f, v, ro, p⟩ := ρ
 have hf : f = fN := hρ.hF
 subst hf
 have q := hρ.hi
 rcases holds (i 0) (i 1) (i 2) (i 3) (i 4) (q 0 _ rfl).1 (q 0 _ rfl).2 (q 1 _ rfl).1 (q 1 _ rfl).2 (q 2 _ rfl).1 (q 2 _ rfl).2 (q 3 _ rfl).1 (q 3 _ rfl).2 (hpre _ (mg 0 rfl)) (hpre _ (mg 1 rfl)) (hpre _ (mg 2 rfl)) (hpre _ (mg 3 rfl)) (hpre _ (mg 4 rfl)) (hpre _ (mg 5 rfl)) with h | h | h
 ·obtain ⟨hx1, hx2, g0, g1, g2, g3, g4, g5, g6, g7⟩ := h
  exact qQi htabs (m := rk.rh) (p := CSMa.rk.rh) rfl rfl rfl rfl rfl rfl rfl rfl CSMa.ok rfl (fun _ => rfl) (fun _ _ _ h => h) (fun _ => rfl) (fun _ _ _ h => h) (fun _ => rfl) hρ ⟨hx1, hx2⟩ (List.forall_mem_cons.2 ⟨g0, List.forall_mem_cons.2 ⟨g1, List.forall_mem_cons.2 ⟨g2, List.forall_mem_cons.2 ⟨g3, List.forall_mem_cons.2 ⟨g4, List.forall_mem_cons.2 ⟨g5, List.forall_mem_cons.2 ⟨g6, List.forall_mem_cons.2 ⟨g7, (fun _ h => by cases h)⟩⟩⟩⟩⟩⟩⟩⟩) hs
 ·obtain ⟨hx1, hx2, g0, g1, g2, g3, g4, g5, g6, g7, g8⟩ := h
  exact qQi htabs (m := rk.rh) (p := CSMb.rk.rh) rfl rfl rfl rfl rfl rfl rfl rfl CSMb.ok rfl (fun _ => rfl) (fun _ _ _ h => h) (fun _ => rfl) (fun _ _ _ h => h) (fun _ => rfl) hρ ⟨hx1, hx2⟩ (List.forall_mem_cons.2 ⟨g0, List.forall_mem_cons.2 ⟨g1, List.forall_mem_cons.2 ⟨g2, List.forall_mem_cons.2 ⟨g3, List.forall_mem_cons.2 ⟨g4, List.forall_mem_cons.2 ⟨g5, List.forall_mem_cons.2 ⟨g6, List.forall_mem_cons.2 ⟨g7, List.forall_mem_cons.2 ⟨g8, (fun _ h => by cases h)⟩⟩⟩⟩⟩⟩⟩⟩⟩) hs
 ·obtain ⟨hx1, hx2, g0, g1, g2, g3, g4, g5, g6, g7, g8, g9⟩ := h
  exact qQi htabs (m := rk.rh) (p := CSMc6.rk.rh) rfl rfl rfl rfl rfl rfl rfl rfl CSMc6.ok rfl (fun _ => rfl) (fun _ _ _ h => h) (fun _ => rfl) (fun _ _ _ h => h) (fun _ => rfl) hρ ⟨hx1, hx2⟩ (List.forall_mem_cons.2 ⟨g0, List.forall_mem_cons.2 ⟨g1, List.forall_mem_cons.2 ⟨g2, List.forall_mem_cons.2 ⟨g3, List.forall_mem_cons.2 ⟨g4, List.forall_mem_cons.2 ⟨g5, List.forall_mem_cons.2 ⟨g6, List.forall_mem_cons.2 ⟨g7, List.forall_mem_cons.2 ⟨g8, List.forall_mem_cons.2 ⟨g9, (fun _ h => by cases h)⟩⟩⟩⟩⟩⟩⟩⟩⟩⟩) hs
end CSMg6
namespace CSMc7
def rk : Rk := ⟨42, [(0, 0), (0, 1000000), (0, 1000000), (0, 1000000), (0, 1000000)], 6, [.sl (.own 0) 4 (.c 0) (.v 1) none, .int .i64 (.v 2), .int .i64 (.v 3), .int .i64 (.v 4), .func (.func 18) [] []], [.arr [.int .i64, .int .i64, .int .i64, .int .i64] 30 (.v 5) (.v 1)], [(.c 2), (.b .le .i64 (.b .padd .i64 (.v 2) (.c 1)) (.v 3)), (.b .le .i64 (.b .padd .i64 (.v 3) (.c 1)) (.v 4)), (.b .le .i64 (.v 4) (.v 1)), (.f 154 (.v 5) (.v 2) (.v 3)), (.f 154 (.v 5) (.v 3) (.v 4)), (.b .le .i64 (.b .psub .i64 (.v 4) (.v 2)) (.c 128)), (.b .ne .i64 (.b .psub .i64 (.v 3) (.v 2)) (.c 1)), (.b .ne .i64 (.b .psub .i64 (.v 4) (.v 3)) (.c 1)), (.b .eq .i64 (.c 0) (.v 0))], .tup [], [.arr [.int .i64, .int .i64, .int .i64, .int .i64] 30 (.v 1000000) (.v 1)], [.code [.int .i64, .int .i64, .int .i64, .int .i64] (.f 153 (.v 5) (.v 1) (qQs [(.v 2), (.v 4)])) (.v 1)], []⟩
theorem okk : rk.ok = true := by kernel_rfl
theorem okh : rk.rh.ok = true := by kernel_rfl
def mk42_33 : qZd := [([0, 21], .num (-9223372036854775808) (9223372036854775807)), ([0, 20], .num (-9223372036854775808) (9223372036854775807)), ([0, 23], .wilds 1), ([0, 149], .wilds 26)]
noncomputable def us : SMs := fun Γ ins n => smButH 42 rk.args (smH (cxG n Γ ins) [CSRot.rk.rh, CSMg6.rk.rh] (smR (cxG n Γ ins) [CTCmp.rc]))
theorem us_ok : SMsOk us := fun Γ ins n => qXu (qJp (tabsG n Γ ins) (qZw CSRot.okh (rh_n CSRot.ok) (qZw CSMg6.okh (rh_n CSMg6.ok) (qZp _))) (qJh (tabsG n Γ ins) (qJv CTCmp.okb (rc_n CTCmp.ok) (qZr _))))
def tree : TT (List E) := SMcF.tree 64
theorem plain (i v ro p) : statH 2 rk tree ⟨i, fN, v, ro, p⟩ = SMcF.P 64 (i 0) (i 1) (i 2) (i 3) (i 4) (i 5) := by kernel_rfl
theorem ran : ranH us (fun f i => if f = 42 then (match i with | 33 => .tmpl (some mk42_33) | _ => .auto) else .auto) rk 2 tree = true := by kernel_rfl
theorem fineT : fineH 2 rk tree = true := by kernel_rfl
theorem ok : RhOk (cxOf 2) rk.rh := okH us_ok ran fineT (by kernel_rfl) okk fun i v ro p hρ hpre => by rw [plain]; have q := hρ.hi; exact SMcF.holds 128 64 (by omega) (by omega) _ _ _ _ _ _ (q 0 _ rfl).1 (q 0 _ rfl).2 (q 1 _ rfl).1 (q 1 _ rfl).2 (q 2 _ rfl).1 (q 2 _ rfl).2 (q 3 _ rfl).1 (q 3 _ rfl).2 (q 4 _ rfl).1 (q 4 _ rfl).2 (hpre _ (mg 0 rfl)) (hpre _ (mg 1 rfl)) (hpre _ (mg 2 rfl)) (hpre _ (mg 3 rfl)) (hpre _ (mg 4 rfl)) (hpre _ (mg 5 rfl)) (hpre _ (mg 6 rfl)) (hpre _ (mg 7 rfl)) (hpre _ (mg 8 rfl)) (hpre _ (mg 9 rfl))
end CSMc7
namespace CSMg7
def rk : Rk := ⟨42, [(0, 1000000), (0, 1000000), (0, 1000000), (0, 1000000)], 5, [.sl (.own 0) 4 (.c 0) (.v 0) none, .int .i64 (.v 1), .int .i64 (.v 2), .int .i64 (.v 3), .func (.func 18) [] []], [.arr [.int .i64, .int .i64, .int .i64, .int .i64] 30 (.v 4) (.v 0)], [(.b .le .i64 (.b .padd .i64 (.v 1) (.c 1)) (.v 2)), (.b .le .i64 (.b .padd .i64 (.v 2) (.c 1)) (.v 3)), (.b .le .i64 (.v 3) (.v 0)), (.b .le .i64 (.b .psub .i64 (.v 3) (.v 1)) (.c 128)), (.f 154 (.v 4) (.v 1) (.v 2)), (.f 154 (.v 4) (.v 2) (.v 3))], .tup [], [.arr [.int .i64, .int .i64, .int .i64, .int .i64] 30 (.v 1000000) (.v 0)], [.code [.int .i64, .int .i64, .int .i64, .int .i64] (.f 153 (.v 4) (.v 0) (qQs [(.v 1), (.v 3)])) (.v 0)], []⟩
theorem okk : rk.ok = true := by kernel_rfl
theorem okh : rk.rh.ok = true := by kernel_rfl
theorem holds (n a mi b q : Int) (l_n : 0 ≤ n) (u_n : n ≤ 1000000) (l_a : 0 ≤ a) (u_a : a ≤ 1000000) (l_mi : 0 ≤ mi) (u_mi : mi ≤ 1000000) (l_b : 0 ≤ b) (u_b : b ≤ 1000000) (h_pre0 : qQq (decide (a+1 ≤ mi)) ≠ 0) (h_pre1 : qQq (decide (mi+1 ≤ b)) ≠ 0) (h_pre2 : qQq (decide (b ≤ n)) ≠ 0) (h_pre3 : qQq (decide (b-a ≤ 128)) ≠ 0) (h_pre4 : (srtZ q a mi) ≠ 0) (h_pre5 : (srtZ q mi b) ≠ 0) : (0 ≤ (0  : Int) ∧ (0  : Int) ≤ 0 ∧ (2 : Int) ≠ 0 ∧ qQq (decide (a+1 ≤ mi)) ≠ 0 ∧ qQq (decide (mi+1 ≤ b)) ≠ 0 ∧ qQq (decide (b ≤ n)) ≠ 0 ∧ (srtZ q a mi) ≠ 0 ∧ (srtZ q mi b) ≠ 0 ∧ qQq (mi-a == 1) ≠ 0 ∧ qQq (0 == ((0  : Int))) ≠ 0) ∨ (0 ≤ (0  : Int) ∧ (0  : Int) ≤ 0 ∧ (2 : Int) ≠ 0 ∧ qQq (decide (a+1 ≤ mi)) ≠ 0 ∧ qQq (decide (mi+1 ≤ b)) ≠ 0 ∧ qQq (decide (b ≤ n)) ≠ 0 ∧ (srtZ q a mi) ≠ 0 ∧ (srtZ q mi b) ≠ 0 ∧ qQq (mi-a != 1) ≠ 0 ∧ qQq (b-mi == 1) ≠ 0 ∧ qQq (0 == ((0  : Int))) ≠ 0) ∨ (0 ≤ (0  : Int) ∧ (0  : Int) ≤ 0 ∧ (2 : Int) ≠ 0 ∧ qQq (decide (a+1 ≤ mi)) ≠ 0 ∧ qQq (decide (mi+1 ≤ b)) ≠ 0 ∧ qQq (decide (b ≤ n)) ≠ 0 ∧ (srtZ q a mi) ≠ 0 ∧ (srtZ q mi b) ≠ 0 ∧ qQq (decide (b-a ≤ 128)) ≠ 0 ∧ qQq (mi-a != 1) ≠ 0 ∧ qQq (b-mi != 1) ≠ 0 ∧ qQq (0 == ((0  : Int))) ≠ 0) := by
 simp only [nrm, Int.reduceEq, Int.reduceNeg, reduceIte] at *
 omega
theorem htabs : ∀ d ∈ tabsL, d.c.vb 0 = true ∧ d.n.vb 0 = true ∧ d.cap.vb 0 = true := fun d hd => by have := List.all_eq_true.1 tabsAll d hd; simp only [Bool.and_eq_true] at this; exact this
theorem ok : RhOk (cxOf 2) rk.rh := fun ρ β w hρ hpre hs => by
 obtain ⟨i, f, v, ro, p⟩ := ρ
 have hf : f = fN := hρ.hF
 subst hf
 have q := hρ.hi
 rcases holds (i 0) (i 1) (i 2) (i 3) (i 4) (q 0 _ rfl).1 (q 0 _ rfl).2 (q 1 _ rfl).1 (q 1 _ rfl).2 (q 2 _ rfl).1 (q 2 _ rfl).2 (q 3 _ rfl).1 (q 3 _ rfl).2 (hpre _ (mg 0 rfl)) (hpre _ (mg 1 rfl)) (hpre _ (mg 2 rfl)) (hpre _ (mg 3 rfl)) (hpre _ (mg 4 rfl)) (hpre _ (mg 5 rfl)) with h | h | h
 ·obtain ⟨hx1, hx2, g0, g1, g2, g3, g4, g5, g6, g7⟩ := h
  exact qQi htabs (m := rk.rh) (p := CSMa.rk.rh) rfl rfl rfl rfl rfl rfl rfl rfl CSMa.ok rfl (fun _ => rfl) (fun _ _ _ h => h) (fun _ => rfl) (fun _ _ _ h => h) (fun _ => rfl) hρ ⟨hx1, hx2⟩ (List.forall_mem_cons.2 ⟨g0, List.forall_mem_cons.2 ⟨g1, List.forall_mem_cons.2 ⟨g2, List.forall_mem_cons.2 ⟨g3, List.forall_mem_cons.2 ⟨g4, List.forall_mem_cons.2 ⟨g5, List.forall_mem_cons.2 ⟨g6, List.forall_mem_cons.2 ⟨g7, (fun _ h => by cases h)⟩⟩⟩⟩⟩⟩⟩⟩) hs
 ·obtain ⟨hx1, hx2, g0, g1, g2, g3, g4, g5, g6, g7, g8⟩ := h
  exact qQi htabs (m := rk.rh) (p := CSMb.rk.rh) rfl rfl rfl rfl rfl rfl rfl rfl CSMb.ok rfl (fun _ => rfl) (fun _ _ _ h => h) (fun _ => rfl) (fun _ _ _ h => h) (fun _ => rfl) hρ ⟨hx1, hx2⟩ (List.forall_mem_cons.2 ⟨g0, List.forall_mem_cons.2 ⟨g1, List.forall_mem_cons.2 ⟨g2, List.forall_mem_cons.2 ⟨g3, List.forall_mem_cons.2 ⟨g4, List.forall_mem_cons.2 ⟨g5, List.forall_mem_cons.2 ⟨g6, List.forall_mem_cons.2 ⟨g7, List.forall_mem_cons.2 ⟨g8, (fun _ h => by cases h)⟩⟩⟩⟩⟩⟩⟩⟩⟩) hs
 ·obtain ⟨hx1, hx2, g0, g1, g2, g3, g4, g5, g6, g7, g8, g9⟩ := h
  exact qQi htabs (m := rk.rh) (p := CSMc7.rk.rh) rfl rfl rfl rfl rfl rfl rfl rfl CSMc7.ok rfl (fun _ => rfl) (fun _ _ _ h => h) (fun _ => rfl) (fun _ _ _ h => h) (fun _ => rfl) hρ ⟨hx1, hx2⟩ (List.forall_mem_cons.2 ⟨g0, List.forall_mem_cons.2 ⟨g1, List.forall_mem_cons.2 ⟨g2, List.forall_mem_cons.2 ⟨g3, List.forall_mem_cons.2 ⟨g4, List.forall_mem_cons.2 ⟨g5, List.forall_mem_cons.2 ⟨g6, List.forall_mem_cons.2 ⟨g7, List.forall_mem_cons.2 ⟨g8, List.forall_mem_cons.2 ⟨g9, (fun _ h => by cases h)⟩⟩⟩⟩⟩⟩⟩⟩⟩⟩) hs
end CSMg7
namespace CSMc8
def rk : Rk := ⟨42, [(0, 0), (0, 1000000), (0, 1000000), (0, 1000000), (0, 1000000)], 6, [.sl (.own 0) 4 (.c 0) (.v 1) none, .int .i64 (.v 2), .int .i64 (.v 3), .int .i64 (.v 4), .func (.func 18) [] []], [.arr [.int .i64, .int .i64, .int .i64, .int .i64] 30 (.v 5) (.v 1)], [(.c 2), (.b .le .i64 (.b .padd .i64 (.v 2) (.c 1)) (.v 3)), (.b .le .i64 (.b .padd .i64 (.v 3) (.c 1)) (.v 4)), (.b .le .i64 (.v 4) (.v 1)), (.f 154 (.v 5) (.v 2) (.v 3)), (.f 154 (.v 5) (.v 3) (.v 4)), (.b .le .i64 (.b .psub .i64 (.v 4) (.v 2)) (.c 256)), (.b .ne .i64 (.b .psub .i64 (.v 3) (.v 2)) (.c 1)), (.b .ne .i64 (.b .psub .i64 (.v 4) (.v 3)) (.c 1)), (.b .eq .i64 (.c 0) (.v 0))], .tup [], [.arr [.int .i64, .int .i64, .int .i64, .int .i64] 30 (.v 1000000) (.v 1)], [.code [.int .i64, .int .i64, .int .i64, .int .i64] (.f 153 (.v 5) (.v 1) (qQs [(.v 2), (.v 4)])) (.v 1)], []⟩
theorem okk : rk.ok = true := by kernel_rfl
theorem okh : rk.rh.ok = true := by kernel_rfl
def mk42_33 : qZd := [([0, 21], .num (-9223372036854775808) (9223372036854775807)), ([0, 20], .num (-9223372036854775808) (9223372036854775807)), ([0, 23], .wilds 1), ([0, 149], .wilds 26)]
noncomputable def us : SMs := fun Γ ins n => smButH 42 rk.args (smH (cxG n Γ ins) [CSRot.rk.rh, CSMg7.rk.rh] (smR (cxG n Γ ins) [CTCmp.rc]))
theorem us_ok : SMsOk us := fun Γ ins n => qXu (qJp (tabsG n Γ ins) (qZw CSRot.okh (rh_n CSRot.ok) (qZw CSMg7.okh (rh_n CSMg7.ok) (qZp _))) (qJh (tabsG n Γ ins) (qJv CTCmp.okb (rc_n CTCmp.ok) (qZr _))))
def tree : TT (List E) := SMcF.tree 128
theorem plain (i v ro p) : statH 2 rk tree ⟨i, fN, v, ro, p⟩ = SMcF.P 128 (i 0) (i 1) (i 2) (i 3) (i 4) (i 5) := by kernel_rfl
theorem ran : ranH us (fun f i => if f = 42 then (match i with | 33 => .tmpl (some mk42_33) | _ => .auto) else .auto) rk 2 tree = true := by kernel_rfl
theorem fineT : fineH 2 rk tree = true := by kernel_rfl
theorem ok : RhOk (cxOf 2) rk.rh := okH us_ok ran fineT (by kernel_rfl) okk fun i v ro p hρ hpre => by rw [plain]; have q := hρ.hi; exact SMcF.holds 256 128 (by omega) (by omega) _ _ _ _ _ _ (q 0 _ rfl).1 (q 0 _ rfl).2 (q 1 _ rfl).1 (q 1 _ rfl).2 (q 2 _ rfl).1 (q 2 _ rfl).2 (q 3 _ rfl).1 (q 3 _ rfl).2 (q 4 _ rfl).1 (q 4 _ rfl).2 (hpre _ (mg 0 rfl)) (hpre _ (mg 1 rfl)) (hpre _ (mg 2 rfl)) (hpre _ (mg 3 rfl)) (hpre _ (mg 4 rfl)) (hpre _ (mg 5 rfl)) (hpre _ (mg 6 rfl)) (hpre _ (mg 7 rfl)) (hpre _ (mg 8 rfl)) (hpre _ (mg 9 rfl))
end CSMc8
end Go.Proofs.Ytieocjnfjjgjeab
