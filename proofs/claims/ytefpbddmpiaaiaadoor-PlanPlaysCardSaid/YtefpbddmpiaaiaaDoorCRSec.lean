/-
  What astrolaberef20.Plan).Secret answers, as numbers of what it is handed: its run by the engine, and the plain statement behind it. No condition.
-/
import Derived.Test.YtefpbddmpiaaiaaDoorGab
import Derived.Test.YtefpbddmpiaaiaaDoorGmP
namespace Go.Proofs.YtefpbddmpiaaiaaDoor.CRSec
open Go.Eng Go.RowKit
set_option linter.unusedVariables false
set_option linter.unusedSimpArgs false
set_option maxRecDepth 100000
def rk : Rk := ⟨21, [(-9223372036854775808, 9223372036854775807), (0, 100)], 3, [.ptr 0 0], [.cells [.int .i64 (.v 0), .sl (.own 1) 4 (.c 0) (.v 1) none] 31 none, .arr [.str, .int .i64, .int .i64, .bool] 37 (.v 2) (.v 1)], [(.f 59 (.v 2) (.v 1) (.c 0))], .sl (.own 2) 1 (.c 0) (.v 1000000) none, [.cells [.int .i64 (.v 0), .sl (.own 1) 4 (.c 0) (.v 1) none] 31 none, .arr [.str, .int .i64, .int .i64, .bool] 37 (.v 2) (.v 1), .arr [.bool] 4 (.v 1000001) (.v 1000000)], [.num (.f 56 (.v 2) (.v 1) (.c 0)), .code [.bool] (.f 60 (.v 2) (.v 1) (.c 0)) (.f 56 (.v 2) (.v 1) (.c 0))]⟩
theorem okk : rk.ok = true := by kernel_rfl
theorem okh : rk.rh.ok = true := by kernel_rfl
noncomputable def us : SMs := fun Γ ins n => smH (cxG n Γ ins) [] (smR (cxG n Γ ins) [])
theorem us_ok : SMsOk us := fun Γ ins n => smH_ok (rhs_nil _) (smR_ok (rcs_nil _))
def tree : TT (List E) :=
(.loop ⟨1000, [none, some (0, 1000000), some (0, 4611686018427387904)], [(.c 0), (.c 0), (.c 0)], 1009⟩
  (.br (.b .lt .i64 (.cl 1002 0 4611686018427387904) (.v 1))
  (.loop ⟨1004, [none, some (0, 1000000), some (0, 4611686018427387904)], [(.v 1000), (.cl 1001 0 1000000), (.c 0)], 1008⟩
  (.br (.b .lt .i64 (.cl 1006 0 4611686018427387904) (.w .i64 (.f 13 (.f 13 (.v 2) (.cl 1002 0 4611686018427387904) (.c 0)) (.c 2) (.c 0))))
  (.br (.b .le .i64 (.b .padd .i64 (.cl 1005 0 1000000) (.c 1)) (.c 1000000))
  (.br (.b .le .i64 (.b .padd .i64 (.cl 1005 0 1000000) (.c 1)) (.c 1000000))
  (.br (.b .le .i64 (.b .padd .i64 (.cl 1006 0 4611686018427387904) (.c 1)) (.c 4611686018427387904))
  (.back [(.f 14 (.v 1004) (.cl 1005 0 1000000) (.f 13 (.f 13 (.v 2) (.cl 1002 0 4611686018427387904) (.c 0)) (.c 3) (.c 0))), (.b .padd .i64 (.cl 1005 0 1000000) (.c 1)), (.b .padd .i64 (.cl 1006 0 4611686018427387904) (.c 1))])
  (.bad 303))
  (.bad 303))
  (.bad 200))
  (.exit 0))
  (.br (.b .le .i64 (.b .padd .i64 (.cl 1002 0 4611686018427387904) (.c 1)) (.c 4611686018427387904))
  (.back [(.v 1004), (.cl 1005 0 1000000), (.b .padd .i64 (.cl 1002 0 4611686018427387904) (.c 1))])
  (.bad 303)))
  (.exit 0))
  (.leaf [(.cl 1001 0 1000000), (.v 1000)]))

def P (size n q : Int) : Prop :=
 ∃ I1000 : Int → Int → Int → Nat → Prop, (∃ m, I1000 0 0 0 m) ∧
 ∀ y1000 y1001 y1002 : Int, ∀ m1000, (True ∧ (0 ≤ y1001 ∧ y1001 ≤ 1000000) ∧ (0 ≤ y1002 ∧ y1002 ≤ 4611686018427387904) ∧ True) → I1000 y1000 y1001 y1002 m1000 →
  (((bool01 (decide (y1002 < n))) ≠ 0 →
   ∃ I1004 : Int → Int → Int → Nat → Prop, (∃ m, I1004 y1000 y1001 0 m) ∧
   ∀ y1004 y1005 y1006 : Int, ∀ m1004, (True ∧ (0 ≤ y1005 ∧ y1005 ≤ 1000000) ∧ (0 ≤ y1006 ∧ y1006 ≤ 4611686018427387904) ∧ True) → I1004 y1004 y1005 y1006 m1004 →
    (((bool01 (decide (y1006 < (IntKind.wrap .i64 (rdZ (rdZ q y1002) 2))))) ≠ 0 →
     (((bool01 (decide ((y1005 + 1) ≤ 1000000))) ≠ 0 →
      (((bool01 (decide ((y1005 + 1) ≤ 1000000))) ≠ 0 →
       (((bool01 (decide ((y1006 + 1) ≤ 4611686018427387904))) ≠ 0 →
        ∃ m', m' < m1004 ∧ I1004 (updZ y1004 y1005 (rdZ (rdZ q y1002) 3)) (y1005 + 1) (y1006 + 1) m') ∧ ((bool01 (decide ((y1006 + 1) ≤ 4611686018427387904))) = 0 →
        False))) ∧ ((bool01 (decide ((y1005 + 1) ≤ 1000000))) = 0 →
       False))) ∧ ((bool01 (decide ((y1005 + 1) ≤ 1000000))) = 0 →
      False))) ∧ ((bool01 (decide (y1006 < (IntKind.wrap .i64 (rdZ (rdZ q y1002) 2))))) = 0 →
     (((bool01 (decide ((y1002 + 1) ≤ 4611686018427387904))) ≠ 0 →
      ∃ m', m' < m1000 ∧ I1000 y1004 y1005 (y1002 + 1) m') ∧ ((bool01 (decide ((y1002 + 1) ≤ 4611686018427387904))) = 0 →
      False))))) ∧ ((bool01 (decide (y1002 < n))) = 0 →
   (y1001 : Int) = (usedZ q n) ∧ rowEq [.bool] y1000 (secC q n) (usedZ q n) ∧ True))

theorem holds (size n q : Int) (l_size : -9223372036854775808 ≤ size) (u_size : size ≤ 9223372036854775807) (l_n : 0 ≤ n) (u_n : n ≤ 100) (h_pre0 : (okQ q n) ≠ 0) : P size n q := by
  unfold P
  simp only [b01_eq, decide_eq_true_eq, decide_eq_false_iff_not, beq_iff_eq, beq_eq_false_iff_ne, bne_iff_ne, bne_eq_false_iff_eq, Int.not_le, Int.not_lt, true_and, and_true, iteZ_ne, ne_eq, Bool.not_eq_false, Bool.not_eq_true, not_true_eq_false, not_false_eq_true, Decidable.not_not, forall_const, false_implies, true_iff, iff_true, false_iff, iff_false, Int.reduceEq, Int.reduceNeg, eq_self, if_true, if_false, reduceIte]
  simp only [wrap_rd]
  have hok := (okQ_ne q n).1 h_pre0
  refine ⟨fun c s i m => s = usedF q i.toNat ∧ Rw c (secF q i.toNat) ∧ i ≤ n ∧ m = (n - i).toNat, ⟨_, rfl, Rw.nil _, l_n, rfl⟩, fun c s i m hb hI => ?_⟩
  obtain ⟨rfl, hc, hi, rfl⟩ := hI
  have hi0 := nat_i hb.2.1
  refine ⟨fun h1 => ?_, fun h1 => ?_⟩
  · have hq := hok i.toNat (by omega)
    have hu := okRg_used hok i.toNat (by omega)
    have hs := usedF_succ hok (i := i.toNat) (by omega)
    have hu2 := okRg_used hok (i.toNat + 1) (by omega)
    have hl := secF_len hok i.toNat (by omega)
    rw [hi0] at hq hs
    refine ⟨fun d t k m => t = usedF q i.toNat + k ∧ Rw d (secF q i.toNat ++ List.replicate k.toNat (rdZ (rdZ q i) 3)) ∧ k ≤ mk q i 2 ∧ m = (mk q i 2 - k).toNat, ⟨_, by omega, by simpa using hc, by omega, rfl⟩, fun d t k m hk hI => ?_⟩
    obtain ⟨rfl, hd, hk1, rfl⟩ := hI
    refine ⟨fun h2 => ?_, fun h2 => ⟨fun _ => ⟨_, ?_, ?_, ?_, ?_, rfl⟩, fun _ => ?_⟩⟩
    · have g1 : usedF q i.toNat + k + 1 ≤ 1000000 := by omega
      have g2 : k + 1 ≤ 4611686018427387904 := by omega
      refine ⟨fun _ => ⟨fun _ => ⟨fun _ => ⟨_, ?_, ?_, ?_, ?_, rfl⟩, fun _ => by omega⟩, fun _ => by omega⟩, fun _ => by omega⟩
      · omega
      · omega
      · rw [succ_i hk.2.1]
        exact Rw.rep hd (by omega)
      · omega
    · omega
    · rw [succ_i hb.2.1, hs]; omega
    · rw [succ_i hb.2.1, secF, hi0, show mk q i 2 = k by omega]; exact hd
    · omega
    · omega
  · have e : i = n := by omega
    subst e
    refine ⟨rfl, ?_⟩
    have hl := secF_len hok i.toNat (by omega)
    exact hc.eq (by unfold usedZ; omega)

theorem plain (i : Nat → Int) (v : Nat → Value) (ro : Nat → RO) (p : Program) : TT.hdP (rk.rh.cx (cxOf 2)) (rsF ⟨i, fN, v, ro, p⟩ rk.rs) tree ⟨i, fN, v, ro, p⟩ = P (i 0) (i 1) (i 2) := by kernel_rfl
theorem ran : TT.beq (projL (rk.pj (cxOf 2)) (runH us (fun _ _ => .auto) rk 2 rk.f rk.args ⟨rk.inb, []⟩)) tree = true := by kernel_rfl
theorem fineT : (TT.fine (rk.rh.cx (cxOf 2)) 1000 [] tree && (rk.rh.cx (cxOf 2)).okB 1000 && SV.vbL 1000 rk.args && TT.tidy (rk.rh.cx (cxOf 2)) [] tree) = true := by kernel_rfl
theorem fineB : blVb 1000 rk.inb = true := by kernel_rfl
theorem ok : RhOk (cxOf 2) rk.rh :=
  rk_run (runH_ok us_ok (fun _ _ => .auto) rk 2) ran fineT fineB okk fun ρ hρ hpre => by
    obtain ⟨i, f, v, ro, p⟩ := ρ
    have hf : f = fN := hρ.hF
    subst hf
    rw [plain]
    exact holds (i 0) (i 1) (i 2) (hρ.hi 0 _ rfl).1 (hρ.hi 0 _ rfl).2 (hρ.hi 1 _ rfl).1 (hρ.hi 1 _ rfl).2 (hpre _ (List.mem_of_getElem? (i := 0) rfl))
end Go.Proofs.YtefpbddmpiaaiaaDoor.CRSec
