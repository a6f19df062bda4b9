/-
  What functions of the program answer, as numbers of what they are handed: their runs by the engine, the plain statements behind them. No condition.
-/
import Derived.Test.YtieocjnfjjgjeabKa
import Derived.Test.YtieocjnfjjgjeabKb
import Derived.Test.YtieocjnfjjgjeabKc
import Derived.Test.YtieocjnfjjgjeabKd
import Derived.Test.YtieocjnfjjgjeabGab
import Derived.Test.YtieocjnfjjgjeabGp1
import Derived.Test.YtieocjnfjjgjeabGp2
import Derived.Test.YtieocjnfjjgjeabGib
import Derived.Test.YtieocjnfjjgjeabGp3
set_option linter.unusedVariables false
set_option linter.unusedSimpArgs false
set_option maxRecDepth 100000
namespace Go.Proofs.Ytieocjnfjjgjeab
open Go.Eng Go.RowKit
namespace CSMg8
def rk : Rk := ⟨42, [(0, 1000000), (0, 1000000), (0, 1000000), (0, 1000000)], 5, [.sl (.own 0) 4 (.c 0) (.v 0) none, .int .i64 (.v 1), .int .i64 (.v 2), .int .i64 (.v 3), .func (.func 18) [] []], [.arr [.int .i64, .int .i64, .int .i64, .int .i64] 30 (.v 4) (.v 0)], [(.b .le .i64 (.b .padd .i64 (.v 1) (.c 1)) (.v 2)), (.b .le .i64 (.b .padd .i64 (.v 2) (.c 1)) (.v 3)), (.b .le .i64 (.v 3) (.v 0)), (.b .le .i64 (.b .psub .i64 (.v 3) (.v 1)) (.c 256)), (.f 154 (.v 4) (.v 1) (.v 2)), (.f 154 (.v 4) (.v 2) (.v 3))], .tup [], [.arr [.int .i64, .int .i64, .int .i64, .int .i64] 30 (.v 1000000) (.v 0)], [.code [.int .i64, .int .i64, .int .i64, .int .i64] (.f 153 (.v 4) (.v 0) (qQs [(.v 1), (.v 3)])) (.v 0)], []⟩
theorem okk : rk.ok = true := by kernel_rfl
theorem okh : rk.rh.ok = true := by kernel_rfl
theorem holds (n a mi b q : Int) (l_n : 0 ≤ n) (u_n : n ≤ 1000000) (l_a : 0 ≤ a) (u_a : a ≤ 1000000) (l_mi : 0 ≤ mi) (u_mi : mi ≤ 1000000) (l_b : 0 ≤ b) (u_b : b ≤ 1000000) (h_pre0 : qQq (decide (a+1 ≤ mi)) ≠ 0) (h_pre1 : qQq (decide (mi+1 ≤ b)) ≠ 0) (h_pre2 : qQq (decide (b ≤ n)) ≠ 0) (h_pre3 : qQq (decide (b-a ≤ 256)) ≠ 0) (h_pre4 : (srtZ q a mi) ≠ 0) (h_pre5 : (srtZ q mi b) ≠ 0) : (0 ≤ (0  : Int) ∧ (0  : Int) ≤ 0 ∧ (2 : Int) ≠ 0 ∧ qQq (decide (a+1 ≤ mi)) ≠ 0 ∧ qQq (decide (mi+1 ≤ b)) ≠ 0 ∧ qQq (decide (b ≤ n)) ≠ 0 ∧ (srtZ q a mi) ≠ 0 ∧ (srtZ q mi b) ≠ 0 ∧ qQq (mi-a == 1) ≠ 0 ∧ qQq (0 == ((0  : Int))) ≠ 0) ∨ (0 ≤ (0  : Int) ∧ (0  : Int) ≤ 0 ∧ (2 : Int) ≠ 0 ∧ qQq (decide (a+1 ≤ mi)) ≠ 0 ∧ qQq (decide (mi+1 ≤ b)) ≠ 0 ∧ qQq (decide (b ≤ n)) ≠ 0 ∧ (srtZ q a mi) ≠ 0 ∧ (srtZ q mi b) ≠ 0 ∧ qQq (mi-a != 1) ≠ 0 ∧ qQq (b-mi == 1) ≠ 0 ∧ qQq (0 == ((0  : Int))) ≠ 0) ∨ (0 ≤ (0  : Int) ∧ (0  : Int) ≤ 0 ∧ (2 : Int) ≠ 0 ∧ qQq (decide (a+1 ≤ mi)) ≠ 0 ∧ qQq (decide (mi+1 ≤ b)) ≠ 0 ∧ qQq (decide (b ≤ n)) ≠ 0 ∧ (srtZ q a mi) ≠ 0 ∧ (srtZ q mi b) ≠ 0 ∧ qQq (decide (b-a ≤ 256)) ≠ 0 ∧ qQq (mi-a != 1) ≠ 0 ∧ qQq (b-mi != 1) ≠ 0 ∧ qQq (0 == ((0  : Int))) ≠ 0) := by
 simp only [nrm, Int.reduceEq, Int.reduceNeg, reduceIte] at *
 omega
theorem htabs : ∀ d ∈ tabsL, d.c.vb 0 = true ∧ d.n.vb 0 = true ∧ d.cap.vb 0 = true := fun d hd => by have := List.all_eq_true.1 tabsAll d hd; simp only [Bool.and_eq_true] at this; exact this
theorem ok : RhOk (cxOf 2) rk.rh := fun ρ β w hρ hpre hs => by
 obtain ⟨i, f, v, ro, p⟩ := ρ
 have hf : f = fN := hρ.hF
 subst hf
 have q := hρ.hi
 rcases holds (i 0) (i 1) (i 2) (i 3) (i 4) (q 0 _ rfl).1 (q 0 _ rfl).2 (q 1 _ rfl).1 (q 1 _ rfl).2 (q 2 _ rfl).1 (q 2 _ rfl).2 (q 3 _ rfl).1 (q 3 _ rfl).2 (hpre _ (mg 0 rfl)) (hpre _ (mg 1 rfl)) (hpre _ (mg 2 rfl)) (hpre _ (mg 3 rfl)) (hpre _ (mg 4 rfl)) (hpre _ (mg 5 rfl)) with h | h | h
 ·obtain ⟨hx1, hx2, g0, g1, g2, g3, g4, g5, g6, g7⟩ := h
  exact qQi htabs (m := rk.rh) (p := CSMa.rk.rh) rfl rfl rfl rfl rfl rfl rfl rfl CSMa.ok rfl (fun _ => rfl) (fun _ _ _ h => h) (fun _ => rfl) (fun _ _ _ h => h) (fun _ => rfl) hρ ⟨hx1, hx2⟩ (List.forall_mem_cons.2 ⟨g0, List.forall_mem_cons.2 ⟨g1, List.forall_mem_cons.2 ⟨g2, List.forall_mem_cons.2 ⟨g3, List.forall_mem_cons.2 ⟨g4, List.forall_mem_cons.2 ⟨g5, List.forall_mem_cons.2 ⟨g6, List.forall_mem_cons.2 ⟨g7, (fun _ h => by cases h)⟩⟩⟩⟩⟩⟩⟩⟩) hs
 ·obtain ⟨hx1, hx2, g0, g1, g2, g3, g4, g5, g6, g7, g8⟩ := h
  exact qQi htabs (m := rk.rh) (p := CSMb.rk.rh) rfl rfl rfl rfl rfl rfl rfl rfl CSMb.ok rfl (fun _ => rfl) (fun _ _ _ h => h) (fun _ => rfl) (fun _ _ _ h => h) (fun _ => rfl) hρ ⟨hx1, hx2⟩ (List.forall_mem_cons.2 ⟨g0, List.forall_mem_cons.2 ⟨g1, List.forall_mem_cons.2 ⟨g2, List.forall_mem_cons.2 ⟨g3, List.forall_mem_cons.2 ⟨g4, List.forall_mem_cons.2 ⟨g5, List.forall_mem_cons.2 ⟨g6, List.forall_mem_cons.2 ⟨g7, List.forall_mem_cons.2 ⟨g8, (fun _ h => by cases h)⟩⟩⟩⟩⟩⟩⟩⟩⟩) hs
 ·obtain ⟨hx1, hx2, g0, g1, g2, g3, g4, g5, g6, g7, g8, g9⟩ := h
  exact qQi htabs (m := rk.rh) (p := CSMc8.rk.rh) rfl rfl rfl rfl rfl rfl rfl rfl CSMc8.ok rfl (fun _ => rfl) (fun _ _ _ h => h) (fun _ => rfl) (fun _ _ _ h => h) (fun _ => rfl) hρ ⟨hx1, hx2⟩ (List.forall_mem_cons.2 ⟨g0, List.forall_mem_cons.2 ⟨g1, List.forall_mem_cons.2 ⟨g2, List.forall_mem_cons.2 ⟨g3, List.forall_mem_cons.2 ⟨g4, List.forall_mem_cons.2 ⟨g5, List.forall_mem_cons.2 ⟨g6, List.forall_mem_cons.2 ⟨g7, List.forall_mem_cons.2 ⟨g8, List.forall_mem_cons.2 ⟨g9, (fun _ h => by cases h)⟩⟩⟩⟩⟩⟩⟩⟩⟩⟩) hs
end CSMg8
namespace CSMc9
def rk : Rk := ⟨42, [(0, 0), (0, 1000000), (0, 1000000), (0, 1000000), (0, 1000000)], 6, [.sl (.own 0) 4 (.c 0) (.v 1) none, .int .i64 (.v 2), .int .i64 (.v 3), .int .i64 (.v 4), .func (.func 18) [] []], [.arr [.int .i64, .int .i64, .int .i64, .int .i64] 30 (.v 5) (.v 1)], [(.c 2), (.b .le .i64 (.b .padd .i64 (.v 2) (.c 1)) (.v 3)), (.b .le .i64 (.b .padd .i64 (.v 3) (.c 1)) (.v 4)), (.b .le .i64 (.v 4) (.v 1)), (.f 154 (.v 5) (.v 2) (.v 3)), (.f 154 (.v 5) (.v 3) (.v 4)), (.b .le .i64 (.b .psub .i64 (.v 4) (.v 2)) (.c 512)), (.b .ne .i64 (.b .psub .i64 (.v 3) (.v 2)) (.c 1)), (.b .ne .i64 (.b .psub .i64 (.v 4) (.v 3)) (.c 1)), (.b .eq .i64 (.c 0) (.v 0))], .tup [], [.arr [.int .i64, .int .i64, .int .i64, .int .i64] 30 (.v 1000000) (.v 1)], [.code [.int .i64, .int .i64, .int .i64, .int .i64] (.f 153 (.v 5) (.v 1) (qQs [(.v 2), (.v 4)])) (.v 1)], []⟩
theorem okk : rk.ok = true := by kernel_rfl
theorem okh : rk.rh.ok = true := by kernel_rfl
def mk42_33 : qZd := [([0, 21], .num (-9223372036854775808) (9223372036854775807)), ([0, 20], .num (-9223372036854775808) (9223372036854775807)), ([0, 23], .wilds 1), ([0, 149], .wilds 26)]
noncomputable def us : SMs := fun Γ ins n => smButH 42 rk.args (smH (cxG n Γ ins) [CSRot.rk.rh, CSMg8.rk.rh] (smR (cxG n Γ ins) [CTCmp.rc]))
theorem us_ok : SMsOk us := fun Γ ins n => qXu (qJp (tabsG n Γ ins) (qZw CSRot.okh (rh_n CSRot.ok) (qZw CSMg8.okh (rh_n CSMg8.ok) (qZp _))) (qJh (tabsG n Γ ins) (qJv CTCmp.okb (rc_n CTCmp.ok) (qZr _))))
def tree : TT (List E) := SMcF.tree 256
theorem plain (i v ro p) : statH 2 rk tree ⟨i, fN, v, ro, p⟩ = SMcF.P 256 (i 0) (i 1) (i 2) (i 3) (i 4) (i 5) := by kernel_rfl
theorem ran : ranH us (fun f i => if f = 42 then (match i with | 33 => .tmpl (some mk42_33) | _ => .auto) else .auto) rk 2 tree = true := by kernel_rfl
theorem fineT : fineH 2 rk tree = true := by kernel_rfl
theorem ok : RhOk (cxOf 2) rk.rh := okH us_ok ran fineT (by kernel_rfl) okk fun i v ro p hρ hpre => by rw [plain]; have q := hρ.hi; exact SMcF.holds 512 256 (by omega) (by omega) _ _ _ _ _ _ (q 0 _ rfl).1 (q 0 _ rfl).2 (q 1 _ rfl).1 (q 1 _ rfl).2 (q 2 _ rfl).1 (q 2 _ rfl).2 (q 3 _ rfl).1 (q 3 _ rfl).2 (q 4 _ rfl).1 (q 4 _ rfl).2 (hpre _ (mg 0 rfl)) (hpre _ (mg 1 rfl)) (hpre _ (mg 2 rfl)) (hpre _ (mg 3 rfl)) (hpre _ (mg 4 rfl)) (hpre _ (mg 5 rfl)) (hpre _ (mg 6 rfl)) (hpre _ (mg 7 rfl)) (hpre _ (mg 8 rfl)) (hpre _ (mg 9 rfl))
end CSMc9
namespace CSMg9
def rk : Rk := ⟨42, [(0, 1000000), (0, 1000000), (0, 1000000), (0, 1000000)], 5, [.sl (.own 0) 4 (.c 0) (.v 0) none, .int .i64 (.v 1), .int .i64 (.v 2), .int .i64 (.v 3), .func (.func 18) [] []], [.arr [.int .i64, .int .i64, .int .i64, .int .i64] 30 (.v 4) (.v 0)], [(.b .le .i64 (.b .padd .i64 (.v 1) (.c 1)) (.v 2)), (.b .le .i64 (.b .padd .i64 (.v 2) (.c 1)) (.v 3)), (.b .le .i64 (.v 3) (.v 0)), (.b .le .i64 (.b .psub .i64 (.v 3) (.v 1)) (.c 512)), (.f 154 (.v 4) (.v 1) (.v 2)), (.f 154 (.v 4) (.v 2) (.v 3))], .tup [], [.arr [.int .i64, .int .i64, .int .i64, .int .i64] 30 (.v 1000000) (.v 0)], [.code [.int .i64, .int .i64, .int .i64, .int .i64] (.f 153 (.v 4) (.v 0) (qQs [(.v 1), (.v 3)])) (.v 0)], []⟩
theorem okk : rk.ok = true := by kernel_rfl
theorem okh : rk.rh.ok = true := by kernel_rfl
theorem holds (n a mi b q : Int) (l_n : 0 ≤ n) (u_n : n ≤ 1000000) (l_a : 0 ≤ a) (u_a : a ≤ 1000000) (l_mi : 0 ≤ mi) (u_mi : mi ≤ 1000000) (l_b : 0 ≤ b) (u_b : b ≤ 1000000) (h_pre0 : qQq (decide (a+1 ≤ mi)) ≠ 0) (h_pre1 : qQq (decide (mi+1 ≤ b)) ≠ 0) (h_pre2 : qQq (decide (b ≤ n)) ≠ 0) (h_pre3 : qQq (decide (b-a ≤ 512)) ≠ 0) (h_pre4 : (srtZ q a mi) ≠ 0) (h_pre5 : (srtZ q mi b) ≠ 0) : (0 ≤ (0  : Int) ∧ (0  : Int) ≤ 0 ∧ (2 : Int) ≠ 0 ∧ qQq (decide (a+1 ≤ mi)) ≠ 0 ∧ qQq (decide (mi+1 ≤ b)) ≠ 0 ∧ qQq (decide (b ≤ n)) ≠ 0 ∧ (srtZ q a mi) ≠ 0 ∧ (srtZ q mi b) ≠ 0 ∧ qQq (mi-a == 1) ≠ 0 ∧ qQq (0 == ((0  : Int))) ≠ 0) ∨ (0 ≤ (0  : Int) ∧ (0  : Int) ≤ 0 ∧ (2 : Int) ≠ 0 ∧ qQq (decide (a+1 ≤ mi)) ≠ 0 ∧ qQq (decide (mi+1 ≤ b)) ≠ 0 ∧ qQq (decide (b ≤ n)) ≠ 0 ∧ (srtZ q a mi) ≠ 0 ∧ (srtZ q mi b) ≠ 0 ∧ qQq (mi-a != 1) ≠ 0 ∧ qQq (b-mi == 1) ≠ 0 ∧ qQq (0 == ((0  : Int))) ≠ 0) ∨ (0 ≤ (0  : Int) ∧ (0  : Int) ≤ 0 ∧ (2 : Int) ≠ 0 ∧ qQq (decide (a+1 ≤ mi)) ≠ 0 ∧ qQq (decide (mi+1 ≤ b)) ≠ 0 ∧ qQq (decide (b ≤ n)) ≠ 0 ∧ (srtZ q a mi) ≠ 0 ∧ (srtZ q mi b) ≠ 0 ∧ qQq (decide (b-a ≤ 512)) ≠ 0 ∧ qQq (mi-a != 1) ≠ 0 ∧ qQq (b-mi != 1) ≠ 0 ∧ qQq (0 == ((0  : Int))) ≠ 0) := by
 simp only [nrm, Int.reduceEq, Int.reduceNeg, reduceIte] at *
 omega
theorem htabs : ∀ d ∈ tabsL, d.c.vb 0 = true ∧ d.n.vb 0 = true ∧ d.cap.vb 0 = true := fun d hd => by have := List.all_eq_true.1 tabsAll d hd; simp only [Bool.and_eq_true] at this; exact this
theorem ok : RhOk (cxOf 2) rk.rh := fun ρ β w hρ hpre hs => by
 obtain ⟨i, f, v, ro, p⟩ := ρ
 have hf : f = fN := hρ.hF
 subst hf
 have q := hρ.hi
 rcases holds (i 0) (i 1) (i 2) (i 3) (i 4) (q 0 _ rfl).1 (q 0 _ rfl).2 (q 1 _ rfl).1 (q 1 _ rfl).2 (q 2 _ rfl).1 (q 2 _ rfl).2 (q 3 _ rfl).1 (q 3 _ rfl).2 (hpre _ (mg 0 rfl)) (hpre _ (mg 1 rfl)) (hpre _ (mg 2 rfl)) (hpre _ (mg 3 rfl)) (hpre _ (mg 4 rfl)) (hpre _ (mg 5 rfl)) with h | h | h
 ·obtain ⟨hx1, hx2, g0, g1, g2, g3, g4, g5, g6, g7⟩ := h
  exact qQi htabs (m := rk.rh) (p := CSMa.rk.rh) rfl rfl rfl rfl rfl rfl rfl rfl CSMa.ok rfl (fun _ => rfl) (fun _ _ _ h => h) (fun _ => rfl) (fun _ _ _ h => h) (fun _ => rfl) hρ ⟨hx1, hx2⟩ (List.forall_mem_cons.2 ⟨g0, List.forall_mem_cons.2 ⟨g1, List.forall_mem_cons.2 ⟨g2, List.forall_mem_cons.2 ⟨g3, List.forall_mem_cons.2 ⟨g4, List.forall_mem_cons.2 ⟨g5, List.forall_mem_cons.2 ⟨g6, List.forall_mem_cons.2 ⟨g7, (fun _ h => by cases h)⟩⟩⟩⟩⟩⟩⟩⟩) hs
 ·obtain ⟨hx1, hx2, g0, g1, g2, g3, g4, g5, g6, g7, g8⟩ := h
  exact qQi htabs (m := rk.rh) (p := CSMb.rk.rh) rfl rfl rfl rfl rfl rfl rfl rfl CSMb.ok rfl (fun _ => rfl) (fun _ _ _ h => h) (fun _ => rfl) (fun _ _ _ h => h) (fun _ => rfl) hρ ⟨hx1, hx2⟩ (List.forall_mem_cons.2 ⟨g0, List.forall_mem_cons.2 ⟨g1, List.forall_mem_cons.2 ⟨g2, List.forall_mem_cons.2 ⟨g3, List.forall_mem_cons.2 ⟨g4, List.forall_mem_cons.2 ⟨g5, List.forall_mem_cons.2 ⟨g6, List.forall_mem_cons.2 ⟨g7, List.forall_mem_cons.2 ⟨g8, (fun _ h => by cases h)⟩⟩⟩⟩⟩⟩⟩⟩⟩) hs
 ·obtain ⟨hx1, hx2, g0, g1, g2, g3, g4, g5, g6, g7, g8, g9⟩ := h
  exact qQi htabs (m := rk.rh) (p := CSMc9.rk.rh) rfl rfl rfl rfl rfl rfl rfl rfl CSMc9.ok rfl (fun _ => rfl) (fun _ _ _ h => h) (fun _ => rfl) (fun _ _ _ h => h) (fun _ => rfl) hρ ⟨hx1, hx2⟩ (List.forall_mem_cons.2 ⟨g0, List.forall_mem_cons.2 ⟨g1, List.forall_mem_cons.2 ⟨g2, List.forall_mem_cons.2 ⟨g3, List.forall_mem_cons.2 ⟨g4, List.forall_mem_cons.2 ⟨g5, List.forall_mem_cons.2 ⟨g6, List.forall_mem_cons.2 ⟨g7, List.forall_mem_cons.2 ⟨g8, List.forall_mem_cons.2 ⟨g9, (fun _ h => by cases h)⟩⟩⟩⟩⟩⟩⟩⟩⟩⟩) hs
end CSMg9
namespace CSStab
def rk : Rk := ⟨28, [(0, 1000000)], 2, [.sl (.own 0) 4 (.c 0) (.v 0) none, .int .i64 (.v 0), .func (.func 18) [] []], [.arr [.int .i64, .int .i64, .int .i64, .int .i64] 30 (.v 1) (.v 0)], [(.b .le .i64 (.v 0) (.c 300))], .tup [], [.arr [.int .i64, .int .i64, .int .i64, .int .i64] 30 (.v 1000000) (.v 0)], [.code [.int .i64, .int .i64, .int .i64, .int .i64] (.f 153 (.v 1) (.v 0) (qQs [(.c 0), (.v 0)])) (.v 0)], []⟩
theorem okk : rk.ok = true := by kernel_rfl
theorem okh : rk.rh.ok = true := by kernel_rfl
noncomputable def us : SMs := fun Γ ins n => smH (cxG n Γ ins) [CSIns.rk.rh, CSMg9.rk.rh] (smR (cxG n Γ ins) [])
theorem us_ok : SMsOk us := fun Γ ins n => qJp (tabsG n Γ ins) (qZw CSIns.okh (rh_n CSIns.ok) (qZw CSMg9.okh (rh_n CSMg9.ok) (qZp _))) (qJh (tabsG n Γ ins) (qZr _))
def Q0 : E := (.cl 1001 20 4611686018427387904)
def Q1 : E := (.cl 1000 (-9223372036854775808) 9223372036854775807)
def Q2 : E := (tl (.c 0) Q1)
def Q3 : E := (tl Q1 (.c 1000000))
def Q4 : E := (tp Q0 (.c 20))
def Q5 : E := (.cl 1006 (-9223372036854775808) 9223372036854775807)
def Q6 : E := (.b .pmul .i64 (.c 2) Q5)
def Q7 : E := (t6 Q6)
def Q8 : E := (.cl 1012 (-9223372036854775808) 9223372036854775807)
def Q9 : E := (.cl 1011 (-9223372036854775808) 9223372036854775807)
def Q10 : E := (tl (.c 0) Q9)
def Q11 : E := (tl Q9 (.c 1000000))
def Q12 : E := (tp Q9 Q5)
def Q13 : E := (t6 Q12)
def Q14 : E := (tl (.c 0) Q13)
def Q15 : E := (tl Q13 (.c 1000000))
def Q16 : E := (tp Q9 (.c 1))
def Q17 : E := (tl Q16 Q13)
def Q18 : E := (tp Q13 (.c 1))
def Q19 : E := (.f 154 (.v 1013) Q9 Q13)
def Q20 : E := (.b .pmul .i64 Q5 (.c 2))
def Q21 : E := (t6 Q20)
def tree : TT (List E) :=
 (.loop ⟨1000, [some (-9223372036854775808, 9223372036854775807), some (20, 4611686018427387904), none], [(.c 0), (.c 20), (.v 1)], 1004⟩ (.br (tl Q0 (.v 0)) (.br Q2 (.br Q3 (.br (tl Q0 (.c 1000000)) (.br (tl Q1 Q0) (.br (tl Q4 (.c 4611686018427387904)) (.back [Q0, Q4, (.f 153 (.v 1002) (.v 0) (tC Q1 (tC Q0 (.c 0))))]) (.bad 303)) (.bad 200)) (.bad 200)) (.bad 200)) (.bad 200)) (.exit 0)) (.br Q2 (.br Q3 (.br (tl Q1 (.v 0)) (.loop ⟨1006, [some (-9223372036854775808, 9223372036854775807), some (-9223372036854775808, 9223372036854775807), some (-9223372036854775808, 9223372036854775807), none], [(.c 20), Q1, Q0, (.f 153 (.v 1002) (.v 0) (tC Q1 (tC (.v 0) (.c 0))))], 1016⟩ (.br (tk Q5 (.v 0)) (.loop ⟨1011, [some (-9223372036854775808, 9223372036854775807), some (-9223372036854775808,
 9223372036854775807), none], [(.c 0), Q7, (.v 1009)], 1015⟩ (.br (tl Q8 (.v 0)) (.br Q10 (.br Q11 (.br Q14 (.br Q15 (.br (tl (.c 0) Q8) (.br (tl Q8 (.c 1000000)) (.br Q17 (.br (tl Q18 Q8) (.br (tl (.b .psub .i64 Q8 Q9) (.c 512)) (.br Q19 (.br (.f 154 (.v 1013) Q13 Q8) (.back [Q8, (t6 (tp Q8 Q7)), (.f 153 (.v 1013) (.v 0) (tC Q9 (tC Q8 (.c 0))))]) (.bad 200)) (.bad 200)) (.bad 200)) (.bad 200)) (.bad 200)) (.bad 200)) (.bad 200)) (.bad 200)) (.bad 200)) (.bad 200)) (.bad 200)) (.exit 0)) (.br (tk Q13 (.v 0)) (.br Q10 (.br Q11 (.br Q14 (.br Q15 (.br Q17 (.br (tl Q18 (.v 0)) (.br (tl (.b .psub .i64 (.v 0) Q9) (.c 512)) (.br Q19 (.br (.f 154 (.v 1013) Q13 (.v 0)) (.back [Q21, Q9, Q8, (.f 153 (.v 1013) (.v 0) (tC Q9 (tC (.v 0) (.c 0))))]) (.bad 200)) (.bad 200)) (.bad 200)) (.bad 200)) (.bad
 200)) (.bad 200)) (.bad 200)) (.bad 200)) (.bad 200)) (.back [Q21, Q9, Q8, (.v 1013)]))) (.exit 0)) (.leaf [(.v 1009)])) (.bad 200)) (.bad 200)) (.bad 200)))
def P (a b : Int) : Prop :=
 ∃ I1000 : Int → Int → Int → Nat → Prop, (∃ m, I1000 0 20 b m) ∧ ∀ y0 y1 y2 : Int, ∀ m0, (((-9223372036854775808) ≤ y0 ∧ y0 ≤ 9223372036854775807) ∧ (20 ≤ y1 ∧ y1 ≤ 4611686018427387904) ∧ True ∧ True) → I1000 y0 y1 y2 m0 → (Pb (PL y1 a) (Pm (PL 0 y0) (Pm (PL y0 1000000) (Pm (PL y1 1000000) (Pm (PL y0 y1) (Pm (PL (y1 + 20) 4611686018427387904) (∃ m', m' < m0 ∧ I1000 y1 (y1 + 20) (stbZ y2 a (kZ y0 (kZ y1 0))) m')))))) (Pm (PL 0 y0) (Pm (PL y0 1000000) (Pm (PL y0 a) (∃ I1006 : Int → Int → Int → Int → Nat → Prop, (∃ m, I1006 20 y0 y1 (stbZ y2 a (kZ y0 (kZ a 0))) m) ∧ ∀ y6 y7 y8 y9 : Int, ∀ m6, (((-9223372036854775808) ≤ y6 ∧ y6 ≤ 9223372036854775807) ∧ ((-9223372036854775808) ≤ y7 ∧ y7 ≤ 9223372036854775807) ∧ ((-9223372036854775808) ≤ y8 ∧ y8 ≤ 9223372036854775807) ∧ True ∧ True) → I1006 y6
 y7 y8 y9 m6 → (Pb (Pl y6 a) (∃ I1011 : Int → Int → Int → Nat → Prop, (∃ m, I1011 0 (W6 (2 * y6)) y9 m) ∧ ∀ y11 y12 y13 : Int, ∀ m11, (((-9223372036854775808) ≤ y11 ∧ y11 ≤ 9223372036854775807) ∧ ((-9223372036854775808) ≤ y12 ∧ y12 ≤ 9223372036854775807) ∧ True ∧ True) → I1011 y11 y12 y13 m11 → (Pb (PL y12 a) (Pm (PL 0 y11) (Pm (PL y11 1000000) (Pm (PL 0 (W6 (y11 + y6))) (Pm (PL (W6 (y11 + y6)) 1000000) (Pm (PL 0 y12) (Pm (PL y12 1000000) (Pm (PL (y11 + 1) (W6 (y11 + y6))) (Pm (PL ((W6 (y11 + y6)) + 1) y12) (Pm (PL (y12 - y11) 512) (Pm (srtZ y13 y11 (W6 (y11 + y6))) (Pm (srtZ y13 (W6 (y11 + y6)) y12) (∃ m', m' < m11 ∧ I1011 y12 (W6 (y12 + (W6 (2 * y6)))) (stbZ y13 a (kZ y11 (kZ y12 0))) m')))))))))))) (Pb (Pl (W6 (y11 + y6)) a) (Pm (PL 0 y11) (Pm (PL y11 1000000) (Pm (PL 0 (W6 (y11 +
 y6))) (Pm (PL (W6 (y11 + y6)) 1000000) (Pm (PL (y11 + 1) (W6 (y11 + y6))) (Pm (PL ((W6 (y11 + y6)) + 1) a) (Pm (PL (a - y11) 512) (Pm (srtZ y13 y11 (W6 (y11 + y6))) (Pm (srtZ y13 (W6 (y11 + y6)) a) (∃ m', m' < m6 ∧ I1006 (W6 (y6 * 2)) y11 y12 (stbZ y13 a (kZ y11 (kZ a 0))) m')))))))))) (∃ m', m' < m6 ∧ I1006 (W6 (y6 * 2)) y11 y12 y13 m')))) (qJz [.int .i64, .int .i64, .int .i64, .int .i64] y9 (stbZ b a (kZ 0 (kZ a 0))) a ∧ True)))))))
set_option maxHeartbeats 4000000 in
theorem holds (n q : Int) (l_n : 0 ≤ n) (u_n : n ≤ 1000000) (h_pre0 : qQq (decide (n ≤ 300)) ≠ 0) : P n q := by
 delta P Pb Pm PL Pl W6 kZ
 simp only [nrm, Int.reduceEq, Int.reduceNeg, reduceIte]
 simp only [nrm, Int.reduceEq, Int.reduceNeg, reduceIte] at h_pre0
 refine ⟨fun a b y m => 0 ≤ a ∧ b = a + 20 ∧ a ≤ n ∧ m = (n - a).toNat ∧ PreR y 20 a.toNat ∧ (∀ k, fK k (segF (elH y) 0 n.toNat) = fK k (segF (elH q) 0 n.toNat)), ⟨_, by omega, by omega, by omega, rfl, .zero, fun _ => rfl⟩, ?_⟩
 rintro a b y m _ ⟨a0, rfl, a1, rfl, hp, hf⟩
 refine ⟨fun hb => ⟨fun _ => ⟨fun _ => ⟨fun _ => ⟨fun _ => ⟨fun _ => ?_, fun h => by omega⟩, fun h => by omega⟩, fun h => by omega⟩, fun h => by omega⟩, fun h => by omega⟩, fun hb => ⟨fun _ => ⟨fun _ => ⟨fun _ => ?_, fun h => by omega⟩, fun h => by omega⟩, fun h => by omega⟩⟩
 ·refine ⟨(n - (a + 20)).toNat, by omega, by omega, by omega, by omega, rfl, ?_, stb_flt a0 (by omega) hb hf⟩
  rw [show (a + 20).toNat = a.toNat + 20 by omega]
  refine .snoc (Go.Eng.PreR.congr hp fun j hj => qZv a0 (by omega) hb (by omega) (by omega)) ?_
  have := dn_stb (y := y) a0 (by omega : a ≤ a + 20) hb
  rwa [show (a + 20).toNat = a.toNat + 20 by omega] at this
 ·refine ⟨fun bs _ _ y m => 20 ≤ bs ∧ bs ≤ 700 ∧ m = (1000 - bs).toNat ∧ Runs y bs.toNat n.toNat 0 ∧ (∀ k, fK k (segF (elH y) 0 n.toNat) = fK k (segF (elH q) 0 n.toNat)), ⟨_, by omega, by omega, rfl, ?_, stb_flt a0 a1 (by omega) hf⟩, ?_⟩
  ·refine Go.Eng.PreR.runs (a := a.toNat) (Go.Eng.PreR.congr hp fun j hj => qZv a0 a1 (by omega) (by omega) (by omega)) (Go.Eng.Runs.last (dn_stb a0 a1 (by omega)) (by show n.toNat ≤ a.toNat + 20; omega)) (by omega)
  rintro bs _ _ y m _ ⟨b0, b1, rfl, hR, hf⟩
  have e2 : IntKind.wrap .i64 (2 * bs) = 2 * bs := w64 (by omega) (by omega)
  have e3 : IntKind.wrap .i64 (bs * 2) = 2 * bs := by rw [Int.mul_comm]; exact e2
  refine ⟨fun hbn => ?_, fun hbn => ?_⟩
  ·rw [e2, e3]
   refine ⟨fun a b y m => 0 ≤ a ∧ b = a + 2 * bs ∧ a ≤ n ∧ m = (n - a).toNat ∧ PreR y (2 * bs).toNat a.toNat ∧ Runs y bs.toNat n.toNat a.toNat ∧ (∀ k, fK k (segF (elH y) 0 n.toNat) = fK k (segF (elH q) 0 n.toNat)), ⟨_, by omega, by omega, by omega, rfl, .zero, hR, hf⟩, ?_⟩
   rintro a b y m _ ⟨a0, rfl, a1, rfl, hp, hr, hf⟩
   have e4 : IntKind.wrap .i64 (a + bs) = a + bs := w64 (by omega) (by omega)
   have e5 : IntKind.wrap .i64 (a + 2 * bs + 2 * bs) = a + 2 * bs + 2 * bs := w64 (by omega) (by omega)
   rw [e4, e5]
   refine ⟨fun hb => ?_, fun hb => ?_⟩
   ·obtain ⟨d1, r1⟩ := Go.Eng.Runs.head hr (by omega)
    obtain ⟨d2, r2⟩ := Go.Eng.Runs.head r1 (by omega)
    rw [Nat.min_eq_left (by omega), show a.toNat + bs.toNat = (a + bs).toNat by omega] at d1
    rw [Nat.min_eq_left (by omega), show a.toNat + bs.toNat + bs.toNat = (a + 2 * bs).toNat by omega, show a.toNat + bs.toNat = (a + bs).toNat by omega] at d2
    rw [show a.toNat + bs.toNat + bs.toNat = (a + 2 * bs).toNat by omega] at r2
    refine ⟨fun _ => ⟨fun _ => ⟨fun _ => ⟨fun _ => ⟨fun _ => ⟨fun _ => ⟨fun _ => ⟨fun _ => ⟨fun _ => ⟨fun _ => ⟨fun _ => ?_, fun h => absurd h (dn_srt (by omega) d2)⟩, fun h => absurd h (dn_srt a0 d1)⟩, fun h => by omega⟩, fun h => by omega⟩, fun h => by omega⟩, fun h => by omega⟩, fun h => by omega⟩, fun h => by omega⟩, fun h => by omega⟩, fun h => by omega⟩, fun h => by omega⟩
    refine ⟨(n - (a + 2 * bs)).toNat, by omega, by omega, by omega, by omega, rfl, ?_, Go.Eng.Runs.congr r2 fun j h1 h2 => qZv a0 (by omega) hb (by omega) (by omega), stb_flt a0 (by omega) hb hf⟩
    rw [show (a + 2 * bs).toNat = a.toNat + (2 * bs).toNat by omega]
    refine .snoc (Go.Eng.PreR.congr hp fun j hj => qZv a0 (by omega) hb (by omega) (by omega)) ?_
    have := dn_stb (y := y) a0 (by omega : a ≤ a + 2 * bs) hb
    rwa [show (a + 2 * bs).toNat = a.toNat + (2 * bs).toNat by omega] at this
   ·refine ⟨fun hm => ?_, fun hm => ?_⟩
    ·obtain ⟨d1, r1⟩ := Go.Eng.Runs.head hr (by omega)
     obtain ⟨d2, _⟩ := Go.Eng.Runs.head r1 (by omega)
     rw [Nat.min_eq_left (by omega), show a.toNat + bs.toNat = (a + bs).toNat by omega] at d1
     rw [Nat.min_eq_right (by omega), show a.toNat + bs.toNat = (a + bs).toNat by omega] at d2
     refine ⟨fun _ => ⟨fun _ => ⟨fun _ => ⟨fun _ => ⟨fun _ => ⟨fun _ => ⟨fun _ => ⟨fun _ => ⟨fun _ => ?_, fun h => absurd h (dn_srt (by omega) d2)⟩, fun h => absurd h (dn_srt a0 d1)⟩, fun h => by omega⟩, fun h => by omega⟩, fun h => by omega⟩, fun h => by omega⟩, fun h => by omega⟩, fun h => by omega⟩, fun h => by omega⟩
     refine ⟨(1000 - 2 * bs).toNat, by omega, by omega, by omega, rfl, ?_, stb_flt a0 a1 (by omega) hf⟩
     exact Go.Eng.PreR.runs (a := a.toNat) (Go.Eng.PreR.congr hp fun j hj => qZv a0 a1 (by omega) (by omega) (by omega)) (Go.Eng.Runs.last (dn_stb a0 a1 (by omega)) (by omega)) (by omega)
    ·refine ⟨(1000 - 2 * bs).toNat, by omega, by omega, by omega, rfl, ?_, hf⟩
     refine Go.Eng.PreR.runs (a := a.toNat) hp ?_ (by omega)
     by_cases han : a < n
     ·obtain ⟨d1, _⟩ := Go.Eng.Runs.head hr (by omega)
      rw [Nat.min_eq_right (by omega)] at d1
      exact Go.Eng.Runs.last d1 (by omega)
     ·exact .done (by omega)
  ·refine stb_eq (by omega) l_n (by omega) (fun j h1 h2 => by omega) ?_ hf
   by_cases hn : 0 < n
   ·obtain ⟨d1, _⟩ := Go.Eng.Runs.head hR (by omega)
    rw [Nat.zero_add, Nat.min_eq_right (by omega)] at d1
    exact d1
   ·rw [qKf _ (by omega)]; exact List.Pairwise.nil
theorem plain (i v ro p) : statH 2 rk tree ⟨i, fN, v, ro, p⟩ = P (i 0) (i 1) := by kernel_rfl
theorem ran : ranH us (fun _ _ => .auto) rk 2 tree = true := by kernel_rfl
theorem fineT : fineH 2 rk tree = true := by kernel_rfl
theorem ok : RhOk (cxOf 2) rk.rh := okH us_ok ran fineT (by kernel_rfl) okk fun i v ro p hρ hpre => by rw [plain]; have q := hρ.hi; exact holds _ _ (q 0 _ rfl).1 (q 0 _ rfl).2 (hpre _ (mg 0 rfl))
end CSStab
namespace CSSf
def rk : Rk := ⟨17, [(0, 1000000)], 2, [.sl (.own 0) 4 (.c 0) (.v 0) none, .func (.func 18) [] []], [.arr [.int .i64, .int .i64, .int .i64, .int .i64] 30 (.v 1) (.v 0)], [(.b .le .i64 (.v 0) (.c 300))], .tup [], [.arr [.int .i64, .int .i64, .int .i64, .int .i64] 30 (.v 1000000) (.v 0)], [.code [.int .i64, .int .i64, .int .i64, .int .i64] (.f 153 (.v 1) (.v 0) (qQs [(.c 0), (.v 0)])) (.v 0)], []⟩
theorem okk : rk.ok = true := by kernel_rfl
theorem okh : rk.rh.ok = true := by kernel_rfl
noncomputable def us : SMs := fun Γ ins n => smH (cxG n Γ ins) [CSStab.rk.rh] (smR (cxG n Γ ins) [])
theorem us_ok : SMsOk us := fun Γ ins n => qJp (tabsG n Γ ins) (qZw CSStab.okh (rh_n CSStab.ok) (qZp _)) (qJh (tabsG n Γ ins) (qZr _))
def tree : TT (List E) :=
(.br (.b .le .i64 (.v 0) (.c 300))
 (.leaf [(.f 153 (.v 1) (.v 0) (.f 11 (.c 0) (.f 11 (.v 0) (.c 0) (.c 0)) (.c 0)))])
 (.bad 200))
def P (n q : Int) : Prop :=
 (((qQq (decide (n ≤ 300))) ≠ 0 →
  qJz [.int .i64, .int .i64, .int .i64, .int .i64] (stbZ q n (qQk 0 (qQk n 0))) (stbZ q n (qQk 0 (qQk n 0))) n ∧ True) ∧ ((qQq (decide (n ≤ 300))) = 0 →
  False))
theorem holds (n q : Int) (l_n : 0 ≤ n) (u_n : n ≤ 1000000) (h_pre0 : qQq (decide (n ≤ 300)) ≠ 0) : P n q := by
 unfold P
 simp only [nrm, Int.reduceEq, Int.reduceNeg, reduceIte]
 simp only [nrm, Int.reduceEq, Int.reduceNeg, reduceIte] at h_pre0
 exact ⟨fun _ => rowEq_refl _ _ _, fun h => by omega⟩
theorem plain (i v ro p) : statH 2 rk tree ⟨i, fN, v, ro, p⟩ = P (i 0) (i 1) := by kernel_rfl
theorem ran : ranH us (fun _ _ => .auto) rk 2 tree = true := by kernel_rfl
theorem fineT : fineH 2 rk tree = true := by kernel_rfl
theorem ok : RhOk (cxOf 2) rk.rh := okH us_ok ran fineT (by kernel_rfl) okk fun i v ro p hρ hpre => by rw [plain]; have q := hρ.hi; exact holds _ _ (q 0 _ rfl).1 (q 0 _ rfl).2 (hpre _ (mg 0 rfl))
end CSSf
namespace CTTop
def rc : Rc := ⟨6, [none, none], [.row [.int .i64, .int .i64, .int .i64] 1000000, .int .i64], [(.b .le .i64 (.v 0) (.c 300))], .one, [.row [.int .i64, .int .i64, .int .i64, .int .i64] 30 (.f 160 (.v 2) (.v 0) (.v 1)) (.f 159 (.v 2) (.v 0) (.v 1))]⟩
theorem okb : rc.ok = true := by kernel_rfl
noncomputable def us : SMs := fun Γ ins n => smH (cxG n Γ ins) [CSSf.rk.rh] (smAnd 5 (libRows Γ ins n) (smAnd 20 (libClone20 Γ ins n) (smR (cxG n Γ ins) [])))
theorem us_ok : SMsOk us := fun Γ ins n => qJp (tabsG n Γ ins) (qZw CSSf.okh (rh_n CSSf.ok) (qZp _)) (smAnd_ok (libRows_ok Γ ins n) (smAnd_ok (libClone20_ok Γ ins n) (qJh (tabsG n Γ ins) (qZr _))))
def tree : TT (List E) :=
(.br (.b .le .i64 (.f 157 (.v 2) (.v 0) (.c 0)) (.c 300))
 (.br (.b .le .i64 (.b .max .i64 (.c 0) (.b .min .i64 (.v 1) (.f 157 (.v 2) (.v 0) (.c 0)))) (.f 157 (.v 2) (.v 0) (.c 0)))
 (.leaf [(.b .max .i64 (.c 0) (.b .min .i64 (.v 1) (.f 157 (.v 2) (.v 0) (.c 0)))), (.f 153 (.f 158 (.v 2) (.v 0) (.c 0)) (.f 157 (.v 2) (.v 0) (.c 0)) (.f 11 (.c 0) (.f 11 (.f 157 (.v 2) (.v 0) (.c 0)) (.c 0) (.c 0)) (.c 0)))])
 (.bad 200))
 (.bad 200))
def P (n0 p1 c0 r0 : Int) : Prop :=
 (((qQq (decide ((hrwN c0 n0) ≤ 300))) ≠ 0 →
  (((qQq (decide ((maxZ 0 (minZ p1 (hrwN c0 n0))) ≤ (hrwN c0 n0)))) ≠ 0 →
   ((maxZ 0 (minZ p1 (hrwN c0 n0))) : Int) = (topN c0 n0 p1) ∧ qJz [.int .i64, .int .i64, .int .i64, .int .i64] (stbZ (hrwZ c0 n0) (hrwN c0 n0) (qQk 0 (qQk (hrwN c0 n0) 0))) (topZ c0 n0 p1) (maxZ 0 (minZ p1 (hrwN c0 n0))) ∧ True) ∧ ((qQq (decide ((maxZ 0 (minZ p1 (hrwN c0 n0))) ≤ (hrwN c0 n0)))) = 0 →
   False))) ∧ ((qQq (decide ((hrwN c0 n0) ≤ 300))) = 0 →
  False))
theorem holds (n0 p1 c0 r0 : Int) (l_n0 : 0 ≤ n0) (u_n0 : n0 ≤ 1000000) (l_p1 : -9223372036854775808 ≤ p1) (u_p1 : p1 ≤ 9223372036854775807) (h_n0 : n0 ≤ r0) (h_pre0 : qQq (decide (n0 ≤ 300)) ≠ 0) : P n0 p1 c0 r0 := by
 unfold P
 simp only [nrm, Int.reduceEq, Int.reduceNeg, reduceIte]
 simp only [nrm, Int.reduceEq, Int.reduceNeg, reduceIte] at h_pre0
 have e : min n0.toNat 1000000 = n0.toNat := by omega
 have hN := hrwL_len c0 n0.toNat
 have hb := hrwN_bd c0 n0
 have e1 : (hrwN c0 n0) = (hrwL c0 n0.toNat).length := by unfold hrwN; rw [e]
 have hm : maxZ 0 (minZ p1 (hrwN c0 n0)) = max 0 (min p1 (hrwN c0 n0)) := by unfold maxZ minZ; omega
 rw [hm]
 refine ⟨fun _ => ⟨fun _ => ?_, fun h => by omega⟩, fun h => by omega⟩
 have e2 : rwH (hrwZ c0 n0) (hrwN c0 n0).toNat = hrwL c0 n0.toNat := by
  unfold hrwZ
  rw [e, e1, Int.toNat_natCast]
  exact rwH_LZ (hrw_w c0 n0.toNat)
 have e3 : rwH (stbZ (hrwZ c0 n0) (hrwN c0 n0) (qQk 0 (qQk (hrwN c0 n0) 0))) (hrwN c0 n0).toNat = stS (hrwL c0 n0.toNat) := by
  have := stb_in (q := hrwZ c0 n0) (n := hrwN c0 n0) (a := 0) (b := hrwN c0 n0) (by omega) (by omega) (by omega)
  rw [rwH_seg, ← e2, rwH_seg]
  exact this
 have e4 : rwH (stbZ (hrwZ c0 n0) (hrwN c0 n0) (qQk 0 (qQk (hrwN c0 n0) 0))) (max 0 (min p1 (hrwN c0 n0))).toNat = topL c0 n0 p1 := by
  unfold topL
  rw [e, ← e3]
  unfold rwH
  rw [← List.map_take, List.take_range]
  congr 2
  omega
 have hl : (topL c0 n0 p1).length = (max 0 (min p1 (hrwN c0 n0))).toNat := by rw [← e4]; simp [rwH]
 refine ⟨?_, ?_⟩
 ·show _ = topN c0 n0 p1
  unfold topN
  omega
 ·show qJz _ _ (topZ c0 n0 p1) _
  unfold topZ
  exact code_row e4 (by omega)
theorem plain (i v ro p) : statR 2 rc tree ⟨i, fN, v, ro, p⟩ = P (i 0) (i 1) (i 2) (i 3) := by kernel_rfl
theorem ran : ranR us (fun _ _ => .auto) rc 2 tree = true := by kernel_rfl
theorem fineT : fineR 2 rc tree = true := by kernel_rfl
theorem ok : RcOk (cxOf 2) rc := okR us_ok ran fineT okb fun i v ro p hρ hcap hpre => by rw [plain]; have q := hρ.hi; exact holds _ _ _ _ (q 0 _ rfl).1 (q 0 _ rfl).2 (q 1 _ rfl).1 (q 1 _ rfl).2 (hcap _ (mg 0 rfl)) (hpre _ (mg 0 rfl))
end CTTop
namespace CAwake17
def rc : Rc := ⟨4, [], [], [], .one, [.bool (.c 1)]⟩
theorem okb : rc.ok = true := by kernel_rfl
noncomputable def us : SMs := fun Γ ins n => smH (cxG n Γ ins) [] (smAnd 23 (libCompK Γ ins n) (smR (cxG n Γ ins) []))
theorem us_ok : SMsOk us := fun Γ ins n => qJp (tabsG n Γ ins) (qZp _) (smAnd_ok (libCompK_ok Γ ins n) (qJh (tabsG n Γ ins) (qZr _)))
def tree : TT (List E) :=
(.leaf [(.c 1)])
def P : Prop :=
 ((1 : Int) ≠ 0 ↔ (1 : Int) ≠ 0) ∧ True
theorem holds  : P := by
 unfold P
 simp
theorem plain (i v ro p) : statR 2 rc tree ⟨i, fN, v, ro, p⟩ = P  := by kernel_rfl
theorem ran : ranR us (fun _ _ => .auto) rc 2 tree = true := by kernel_rfl
theorem fineT : fineR 2 rc tree = true := by kernel_rfl
theorem ok : RcOk (cxOf 2) rc := okR us_ok ran fineT okb fun i v ro p hρ hcap hpre => by rw [plain]; have q := hρ.hi; exact holds
end CAwake17
end Go.Proofs.Ytieocjnfjjgjeab
