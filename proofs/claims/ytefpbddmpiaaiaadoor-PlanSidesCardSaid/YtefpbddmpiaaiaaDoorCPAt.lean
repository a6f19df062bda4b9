/-
  What plan.Plan).At answers, as numbers of what it is handed: its run by the engine, and the plain statement behind it. No condition.
-/
import Derived.Test.YtefpbddmpiaaiaaDoorGab
import Derived.Test.YtefpbddmpiaaiaaDoorGmP
namespace Go.Proofs.YtefpbddmpiaaiaaDoor.CPAt
open Go.Eng Go.RowKit
set_option linter.unusedVariables false
set_option linter.unusedSimpArgs false
set_option maxRecDepth 100000
def rk : Rk := ⟨13, [(-9223372036854775808, 9223372036854775807), (-9223372036854775808, 9223372036854775807), (0, 100), (0, 1), (-9223372036854775808, 9223372036854775807)], 6, [.ptr 0 0, .int .i64 (.v 4)], [.cells [.int .i64 (.v 0), .int .i64 (.v 1), .sl (.own 1) 4 (.c 0) (.v 2) none, .bool (.v 3)] 73 none, .arr [.str, .int .i64, .int .i64, .bool] 37 (.v 5) (.v 2)], [], .tup [.agg [.str (.v 1000000), .int .i64 (.v 1000001), .int .i64 (.v 1000002), .bool (.v 1000003)], .int .i64 (.v 1000004), .bool (.v 1000005)], [.cells [.int .i64 (.v 0), .int .i64 (.v 1), .sl (.own 1) 4 (.c 0) (.v 2) none, .bool (.v 3)] 73 none, .arr [.str, .int .i64, .int .i64, .bool] 37 (.v 5) (.v 2)], [.str (.ite (.b .le .i64 (.c 0) (.f 55 (.v 5) (.v 2) (.v 4))) (.f 13 (.f 13 (.v 5) (.f 55 (.v 5) (.v 2) (.v 4)) (.c 0)) (.c 0) (.c 0)) (.c 0)), .num (.ite (.b .le .i64 (.c 0) (.f 55 (.v 5) (.v 2) (.v 4))) (.w .i64 (.f 13 (.f 13 (.v 5) (.f 55 (.v 5) (.v 2) (.v 4)) (.c 0)) (.c 1) (.c 0))) (.c 0)), .num (.ite (.b .le .i64 (.c 0) (.f 55 (.v 5) (.v 2) (.v 4))) (.w .i64 (.f 13 (.f 13 (.v 5) (.f 55 (.v 5) (.v 2) (.v 4)) (.c 0)) (.c 2) (.c 0))) (.c 0)), .bool (.ite (.b .le .i64 (.c 0) (.f 55 (.v 5) (.v 2) (.v 4))) (.f 13 (.f 13 (.v 5) (.f 55 (.v 5) (.v 2) (.v 4)) (.c 0)) (.c 3) (.c 0)) (.c 0)), .num (.ite (.b .le .i64 (.c 0) (.f 55 (.v 5) (.v 2) (.v 4))) (.w .i64 (.b .psub .i64 (.v 4) (.w .i64 (.f 13 (.f 13 (.v 5) (.f 55 (.v 5) (.v 2) (.v 4)) (.c 0)) (.c 1) (.c 0))))) (.c 0)), .bool (.b .le .i64 (.c 0) (.f 55 (.v 5) (.v 2) (.v 4)))]⟩
theorem okk : rk.ok = true := by kernel_rfl
theorem okh : rk.rh.ok = true := by kernel_rfl
noncomputable def us : SMs := fun Γ ins n => smH (cxG n Γ ins) [] (smR (cxG n Γ ins) [])
theorem us_ok : SMsOk us := fun Γ ins n => smH_ok (rhs_nil _) (smR_ok (rcs_nil _))
def tree : TT (List E) :=
(.loop ⟨1000, [some (0, 4611686018427387904)], [(.c 0)], 1002⟩
  (.br (.b .lt .i64 (.cl 1000 0 4611686018427387904) (.v 2))
  (.br (.b .le .i64 (.w .i64 (.f 13 (.f 13 (.v 5) (.cl 1000 0 4611686018427387904) (.c 0)) (.c 1) (.c 0))) (.v 4))
  (.br (.b .lt .i64 (.w .i64 (.b .psub .i64 (.v 4) (.w .i64 (.f 13 (.f 13 (.v 5) (.cl 1000 0 4611686018427387904) (.c 0)) (.c 1) (.c 0))))) (.w .i64 (.f 13 (.f 13 (.v 5) (.cl 1000 0 4611686018427387904) (.c 0)) (.c 2) (.c 0))))
  (.exit 0)
  (.br (.b .le .i64 (.b .padd .i64 (.cl 1000 0 4611686018427387904) (.c 1)) (.c 4611686018427387904))
  (.back [(.b .padd .i64 (.cl 1000 0 4611686018427387904) (.c 1))])
  (.bad 303)))
  (.br (.b .le .i64 (.b .padd .i64 (.cl 1000 0 4611686018427387904) (.c 1)) (.c 4611686018427387904))
  (.back [(.b .padd .i64 (.cl 1000 0 4611686018427387904) (.c 1))])
  (.bad 303)))
  (.exit 1))
  (.br (.b .eq .i64 (.v 1002) (.c 0))
  (.new 1004 (.w .i64 (.f 13 (.f 13 (.v 5) (.cl 1000 0 4611686018427387904) (.c 0)) (.c 1) (.c 0)))
  (.new 1005 (.w .i64 (.f 13 (.f 13 (.v 5) (.cl 1000 0 4611686018427387904) (.c 0)) (.c 2) (.c 0)))
  (.leaf [(.f 13 (.f 13 (.v 5) (.cl 1000 0 4611686018427387904) (.c 0)) (.c 0) (.c 0)), (.cl 1004 (-9223372036854775808) 9223372036854775807), (.cl 1005 (-9223372036854775808) 9223372036854775807), (.f 13 (.f 13 (.v 5) (.cl 1000 0 4611686018427387904) (.c 0)) (.c 3) (.c 0)), (.w .i64 (.b .psub .i64 (.v 4) (.cl 1004 (-9223372036854775808) 9223372036854775807))), (.c 1)])))
  (.leaf [(.f 11 (.c 0) (.f 11 (.c 0) (.c 0) (.c 0)) (.c 0)), (.c 0), (.c 0), (.c 0), (.c 0), (.c 0)])))

def P (size used n live adr q : Int) : Prop :=
 ∃ I1000 : Int → Nat → Prop, (∃ m, I1000 0 m) ∧
 ∀ y1000 : Int, ∀ m1000, ((0 ≤ y1000 ∧ y1000 ≤ 4611686018427387904) ∧ True) → I1000 y1000 m1000 →
  (((bool01 (decide (y1000 < n))) ≠ 0 →
   (((bool01 (decide ((IntKind.wrap .i64 (rdZ (rdZ q y1000) 1)) ≤ adr))) ≠ 0 →
    (((bool01 (decide ((IntKind.wrap .i64 (adr - (IntKind.wrap .i64 (rdZ (rdZ q y1000) 1)))) < (IntKind.wrap .i64 (rdZ (rdZ q y1000) 2))))) ≠ 0 →
     (((bool01 ((0 : Int) == 0)) ≠ 0 →
      ∀ y1004 : Int, y1004 = (IntKind.wrap .i64 (rdZ (rdZ q y1000) 1)) → ((-9223372036854775808) ≤ y1004 ∧ y1004 ≤ 9223372036854775807) →
      ∀ y1005 : Int, y1005 = (IntKind.wrap .i64 (rdZ (rdZ q y1000) 2)) → ((-9223372036854775808) ≤ y1005 ∧ y1005 ≤ 9223372036854775807) →
      strOf (rdZ (rdZ q y1000) 0) = strOf (iteZ (bool01 (decide (0 ≤ (atZ q n adr)))) (rdZ (rdZ q (atZ q n adr)) 0) 0) ∧ (y1004 : Int) = (iteZ (bool01 (decide (0 ≤ (atZ q n adr)))) (IntKind.wrap .i64 (rdZ (rdZ q (atZ q n adr)) 1)) 0) ∧ (y1005 : Int) = (iteZ (bool01 (decide (0 ≤ (atZ q n adr)))) (IntKind.wrap .i64 (rdZ (rdZ q (atZ q n adr)) 2)) 0) ∧ (((rdZ (rdZ q y1000) 3) : Int) ≠ 0 ↔ ((iteZ (bool01 (decide (0 ≤ (atZ q n adr)))) (rdZ (rdZ q (atZ q n adr)) 3) 0) : Int) ≠ 0) ∧ ((IntKind.wrap .i64 (adr - y1004)) : Int) = (iteZ (bool01 (decide (0 ≤ (atZ q n adr)))) (IntKind.wrap .i64 (adr - (IntKind.wrap .i64 (rdZ (rdZ q (atZ q n adr)) 1)))) 0) ∧ ((1 : Int) ≠ 0 ↔ ((bool01 (decide (0 ≤ (atZ q n adr)))) : Int) ≠ 0) ∧ True) ∧ ((bool01 ((0 : Int) == 0)) = 0 →
      strOf (consZ 0 (consZ 0 0)) = strOf (iteZ (bool01 (decide (0 ≤ (atZ q n adr)))) (rdZ (rdZ q (atZ q n adr)) 0) 0) ∧ (0 : Int) = (iteZ (bool01 (decide (0 ≤ (atZ q n adr)))) (IntKind.wrap .i64 (rdZ (rdZ q (atZ q n adr)) 1)) 0) ∧ (0 : Int) = (iteZ (bool01 (decide (0 ≤ (atZ q n adr)))) (IntKind.wrap .i64 (rdZ (rdZ q (atZ q n adr)) 2)) 0) ∧ ((0 : Int) ≠ 0 ↔ ((iteZ (bool01 (decide (0 ≤ (atZ q n adr)))) (rdZ (rdZ q (atZ q n adr)) 3) 0) : Int) ≠ 0) ∧ (0 : Int) = (iteZ (bool01 (decide (0 ≤ (atZ q n adr)))) (IntKind.wrap .i64 (adr - (IntKind.wrap .i64 (rdZ (rdZ q (atZ q n adr)) 1)))) 0) ∧ ((0 : Int) ≠ 0 ↔ ((bool01 (decide (0 ≤ (atZ q n adr)))) : Int) ≠ 0) ∧ True))) ∧ ((bool01 (decide ((IntKind.wrap .i64 (adr - (IntKind.wrap .i64 (rdZ (rdZ q y1000) 1)))) < (IntKind.wrap .i64 (rdZ (rdZ q y1000) 2))))) = 0 →
     (((bool01 (decide ((y1000 + 1) ≤ 4611686018427387904))) ≠ 0 →
      ∃ m', m' < m1000 ∧ I1000 (y1000 + 1) m') ∧ ((bool01 (decide ((y1000 + 1) ≤ 4611686018427387904))) = 0 →
      False))))) ∧ ((bool01 (decide ((IntKind.wrap .i64 (rdZ (rdZ q y1000) 1)) ≤ adr))) = 0 →
    (((bool01 (decide ((y1000 + 1) ≤ 4611686018427387904))) ≠ 0 →
     ∃ m', m' < m1000 ∧ I1000 (y1000 + 1) m') ∧ ((bool01 (decide ((y1000 + 1) ≤ 4611686018427387904))) = 0 →
     False))))) ∧ ((bool01 (decide (y1000 < n))) = 0 →
   (((bool01 ((1 : Int) == 0)) ≠ 0 →
    ∀ y1004 : Int, y1004 = (IntKind.wrap .i64 (rdZ (rdZ q y1000) 1)) → ((-9223372036854775808) ≤ y1004 ∧ y1004 ≤ 9223372036854775807) →
    ∀ y1005 : Int, y1005 = (IntKind.wrap .i64 (rdZ (rdZ q y1000) 2)) → ((-9223372036854775808) ≤ y1005 ∧ y1005 ≤ 9223372036854775807) →
    strOf (rdZ (rdZ q y1000) 0) = strOf (iteZ (bool01 (decide (0 ≤ (atZ q n adr)))) (rdZ (rdZ q (atZ q n adr)) 0) 0) ∧ (y1004 : Int) = (iteZ (bool01 (decide (0 ≤ (atZ q n adr)))) (IntKind.wrap .i64 (rdZ (rdZ q (atZ q n adr)) 1)) 0) ∧ (y1005 : Int) = (iteZ (bool01 (decide (0 ≤ (atZ q n adr)))) (IntKind.wrap .i64 (rdZ (rdZ q (atZ q n adr)) 2)) 0) ∧ (((rdZ (rdZ q y1000) 3) : Int) ≠ 0 ↔ ((iteZ (bool01 (decide (0 ≤ (atZ q n adr)))) (rdZ (rdZ q (atZ q n adr)) 3) 0) : Int) ≠ 0) ∧ ((IntKind.wrap .i64 (adr - y1004)) : Int) = (iteZ (bool01 (decide (0 ≤ (atZ q n adr)))) (IntKind.wrap .i64 (adr - (IntKind.wrap .i64 (rdZ (rdZ q (atZ q n adr)) 1)))) 0) ∧ ((1 : Int) ≠ 0 ↔ ((bool01 (decide (0 ≤ (atZ q n adr)))) : Int) ≠ 0) ∧ True) ∧ ((bool01 ((1 : Int) == 0)) = 0 →
    strOf (consZ 0 (consZ 0 0)) = strOf (iteZ (bool01 (decide (0 ≤ (atZ q n adr)))) (rdZ (rdZ q (atZ q n adr)) 0) 0) ∧ (0 : Int) = (iteZ (bool01 (decide (0 ≤ (atZ q n adr)))) (IntKind.wrap .i64 (rdZ (rdZ q (atZ q n adr)) 1)) 0) ∧ (0 : Int) = (iteZ (bool01 (decide (0 ≤ (atZ q n adr)))) (IntKind.wrap .i64 (rdZ (rdZ q (atZ q n adr)) 2)) 0) ∧ ((0 : Int) ≠ 0 ↔ ((iteZ (bool01 (decide (0 ≤ (atZ q n adr)))) (rdZ (rdZ q (atZ q n adr)) 3) 0) : Int) ≠ 0) ∧ (0 : Int) = (iteZ (bool01 (decide (0 ≤ (atZ q n adr)))) (IntKind.wrap .i64 (adr - (IntKind.wrap .i64 (rdZ (rdZ q (atZ q n adr)) 1)))) 0) ∧ ((0 : Int) ≠ 0 ↔ ((bool01 (decide (0 ≤ (atZ q n adr)))) : Int) ≠ 0) ∧ True))))

theorem holds (size used n live adr q : Int) (l_size : -9223372036854775808 ≤ size) (u_size : size ≤ 9223372036854775807) (l_used : -9223372036854775808 ≤ used) (u_used : used ≤ 9223372036854775807) (l_n : 0 ≤ n) (u_n : n ≤ 100) (l_live : 0 ≤ live) (u_live : live ≤ 1) (l_adr : -9223372036854775808 ≤ adr) (u_adr : adr ≤ 9223372036854775807) : P size used n live adr q := by
  unfold P
  simp only [b01_eq, decide_eq_true_eq, decide_eq_false_iff_not, beq_iff_eq, beq_eq_false_iff_ne, bne_iff_ne, bne_eq_false_iff_eq, Int.not_le, Int.not_lt, true_and, and_true, iteZ_ne, ne_eq, Bool.not_eq_false, Bool.not_eq_true, not_true_eq_false, not_false_eq_true, Decidable.not_not, forall_const, false_implies, true_iff, iff_true, false_iff, iff_false, Int.reduceEq, Int.reduceNeg, eq_self, if_true, if_false, reduceIte]
  simp only [wrap_rd]
  refine ⟨fun i m => i ≤ n ∧ (∀ j : Nat, (j : Int) < i → ¬ (mk q j 1 ≤ adr ∧ IntKind.wrap .i64 (adr - mk q j 1) < mk q j 2)) ∧ m = (n - i).toNat, ⟨_, l_n, fun j hj => by omega, rfl⟩, fun i m hb hI => ?_⟩
  obtain ⟨hi, hj, rfl⟩ := hI
  have hi0 := nat_i hb.1
  have next : i < n → ¬ (mk q i 1 ≤ adr ∧ IntKind.wrap .i64 (adr - mk q i 1) < mk q i 2) → ∃ m', m' < (n - i).toNat ∧ i + 1 ≤ n ∧ (∀ j : Nat, (j : Int) < i + 1 → ¬ (mk q j 1 ≤ adr ∧ IntKind.wrap .i64 (adr - mk q j 1) < mk q j 2)) ∧ m' = (n - (i + 1)).toNat := fun h1 h2 => by
    refine ⟨_, by omega, by omega, fun j g => ?_, rfl⟩
    by_cases g2 : (j : Int) < i
    · exact hj j g2
    · rw [show (j : Int) = i by omega]; exact h2
  refine ⟨fun h1 => ⟨fun h2 => ⟨fun h3 => ?_, fun h3 => ⟨fun _ => next h1 (by omega), fun _ => by omega⟩⟩, fun h2 => ⟨fun _ => next h1 (by omega), fun _ => by omega⟩⟩, fun h1 => ?_⟩
  · have : atZ q n adr = i := ixZ_some hb.1 h1 (by rw [hi0]; exact ⟨h2, h3⟩) hj
    intro x hx _ y hy _
    subst hx hy
    simp only [this, if_pos hb.1]; simp [hb.1]
  · have : atZ q n adr = -1 := ixZ_none fun j g => hj j (by omega)
    intros
    simp [this, strOf_empty, strOf_0]

theorem plain (i : Nat → Int) (v : Nat → Value) (ro : Nat → RO) (p : Program) : TT.hdP (rk.rh.cx (cxOf 2)) (rsF ⟨i, fN, v, ro, p⟩ rk.rs) tree ⟨i, fN, v, ro, p⟩ = P (i 0) (i 1) (i 2) (i 3) (i 4) (i 5) := by kernel_rfl
theorem ran : TT.beq (projL (rk.pj (cxOf 2)) (runH us (fun _ _ => .auto) rk 2 rk.f rk.args ⟨rk.inb, []⟩)) tree = true := by kernel_rfl
theorem fineT : (TT.fine (rk.rh.cx (cxOf 2)) 1000 [] tree && (rk.rh.cx (cxOf 2)).okB 1000 && SV.vbL 1000 rk.args && TT.tidy (rk.rh.cx (cxOf 2)) [] tree) = true := by kernel_rfl
theorem fineB : blVb 1000 rk.inb = true := by kernel_rfl
theorem ok : RhOk (cxOf 2) rk.rh :=
  rk_run (runH_ok us_ok (fun _ _ => .auto) rk 2) ran fineT fineB okk fun ρ hρ hpre => by
    obtain ⟨i, f, v, ro, p⟩ := ρ
    have hf : f = fN := hρ.hF
    subst hf
    rw [plain]
    exact holds (i 0) (i 1) (i 2) (i 3) (i 4) (i 5) (hρ.hi 0 _ rfl).1 (hρ.hi 0 _ rfl).2 (hρ.hi 1 _ rfl).1 (hρ.hi 1 _ rfl).2 (hρ.hi 2 _ rfl).1 (hρ.hi 2 _ rfl).2 (hρ.hi 3 _ rfl).1 (hρ.hi 3 _ rfl).2 (hρ.hi 4 _ rfl).1 (hρ.hi 4 _ rfl).2
end Go.Proofs.YtefpbddmpiaaiaaDoor.CPAt
