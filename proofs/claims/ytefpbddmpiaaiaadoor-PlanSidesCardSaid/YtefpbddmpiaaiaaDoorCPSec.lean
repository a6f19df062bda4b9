/-
  What plan.Plan).Secret answers, as numbers of what it is handed: its run by the engine, and the plain statement behind it. No condition.
-/
import Derived.Test.YtefpbddmpiaaiaaDoorGab
import Derived.Test.YtefpbddmpiaaiaaDoorGmP
namespace Go.Proofs.YtefpbddmpiaaiaaDoor.CPSec
open Go.Eng Go.RowKit
set_option linter.unusedVariables false
set_option linter.unusedSimpArgs false
set_option maxRecDepth 100000
def rk : Rk := ⟨20, [(-9223372036854775808, 9223372036854775807), (-9223372036854775808, 9223372036854775807), (0, 100), (0, 1)], 5, [.ptr 0 0], [.cells [.int .i64 (.v 0), .int .i64 (.v 1), .sl (.own 1) 4 (.c 0) (.v 2) none, .bool (.v 3)] 73 none, .arr [.str, .int .i64, .int .i64, .bool] 37 (.v 4) (.v 2)], [(.f 59 (.v 4) (.v 2) (.c 0))], .sl (.own 2) 1 (.c 0) (.v 1000000) none, [.cells [.int .i64 (.v 0), .int .i64 (.v 1), .sl (.own 1) 4 (.c 0) (.v 2) none, .bool (.v 3)] 73 none, .arr [.str, .int .i64, .int .i64, .bool] 37 (.v 4) (.v 2), .arr [.bool] 4 (.v 1000001) (.v 1000000)], [.num (.f 56 (.v 4) (.v 2) (.c 0)), .code [.bool] (.f 60 (.v 4) (.v 2) (.c 0)) (.f 56 (.v 4) (.v 2) (.c 0))]⟩
theorem okk : rk.ok = true := by kernel_rfl
theorem okh : rk.rh.ok = true := by kernel_rfl
noncomputable def us : SMs := fun Γ ins n => smH (cxG n Γ ins) [] (smR (cxG n Γ ins) [])
theorem us_ok : SMsOk us := fun Γ ins n => smH_ok (rhs_nil _) (smR_ok (rcs_nil _))
def tree : TT (List E) :=
(.loop ⟨1000, [none, some (0, 1000000), some (0, 4611686018427387904)], [(.c 0), (.c 0), (.c 0)], 1009⟩
  (.br (.b .lt .i64 (.cl 1002 0 4611686018427387904) (.v 2))
  (.br (.b .lt .i64 (.w .i64 (.f 13 (.f 13 (.v 4) (.cl 1002 0 4611686018427387904) (.c 0)) (.c 2) (.c 0))) (.c 0))
  (.bad 29)
  (.br (.b .lt .i64 (.c 0) (.b .padd .i64 (.b .shr .u64 (.b .shr .u64 (.b .and .u64 (.w .u64 (.f 13 (.f 13 (.v 4) (.cl 1002 0 4611686018427387904) (.c 0)) (.c 2) (.c 0))) (.c 4294967295)) (.c 32)) (.c 32)) (.b .shr .u64 (.b .padd .i64 (.b .and .u64 (.b .shr .u64 (.b .and .u64 (.w .u64 (.f 13 (.f 13 (.v 4) (.cl 1002 0 4611686018427387904) (.c 0)) (.c 2) (.c 0))) (.c 4294967295)) (.c 32)) (.c 4294967295)) (.b .shr .u64 (.w .u64 (.f 13 (.f 13 (.v 4) (.cl 1002 0 4611686018427387904) (.c 0)) (.c 2) (.c 0))) (.c 32))) (.c 32))))
  (.bad 29)
  (.br (.b .lt .i64 (.c 9223372036854775807) (.w .u64 (.f 13 (.f 13 (.v 4) (.cl 1002 0 4611686018427387904) (.c 0)) (.c 2) (.c 0))))
  (.bad 29)
  (.br (.b .le .i64 (.c 0) (.w .i64 (.f 13 (.f 13 (.v 4) (.cl 1002 0 4611686018427387904) (.c 0)) (.c 2) (.c 0))))
  (.br (.b .le .i64 (.w .i64 (.f 13 (.f 13 (.v 4) (.cl 1002 0 4611686018427387904) (.c 0)) (.c 2) (.c 0))) (.c 1000000))
  (.loop ⟨1004, [some (-9223372036854775808, 9223372036854775807), none], [(.b .min .i64 (.c 1) (.w .i64 (.f 13 (.f 13 (.v 4) (.cl 1002 0 4611686018427387904) (.c 0)) (.c 2) (.c 0)))), (.f 16 (.f 14 (.c 0) (.c 0) (.f 13 (.f 13 (.v 4) (.cl 1002 0 4611686018427387904) (.c 0)) (.c 3) (.c 0))) (.b .min .i64 (.c 1) (.w .i64 (.f 13 (.f 13 (.v 4) (.cl 1002 0 4611686018427387904) (.c 0)) (.c 2) (.c 0)))) (.f 18 (.c 0) (.b .min .i64 (.c 1) (.w .i64 (.f 13 (.f 13 (.v 4) (.cl 1002 0 4611686018427387904) (.c 0)) (.c 2) (.c 0)))) (.c 0)))], 1008⟩
  (.br (.b .lt .i64 (.cl 1004 (-9223372036854775808) 9223372036854775807) (.w .i64 (.f 13 (.f 13 (.v 4) (.cl 1002 0 4611686018427387904) (.c 0)) (.c 2) (.c 0))))
  (.br (.b .le .i64 (.c 0) (.cl 1004 (-9223372036854775808) 9223372036854775807))
  (.br (.b .le .i64 (.cl 1004 (-9223372036854775808) 9223372036854775807) (.w .i64 (.f 13 (.f 13 (.v 4) (.cl 1002 0 4611686018427387904) (.c 0)) (.c 2) (.c 0))))
  (.br (.b .le .i64 (.c 0) (.ite (.b .eq .i64 (.w .i64 (.f 13 (.f 13 (.v 4) (.cl 1002 0 4611686018427387904) (.c 0)) (.c 2) (.c 0))) (.cl 1004 (-9223372036854775808) 9223372036854775807)) (.c 0) (.cl 1004 (-9223372036854775808) 9223372036854775807)))
  (.br (.b .le .i64 (.c 0) (.b .psub .i64 (.w .i64 (.f 13 (.f 13 (.v 4) (.cl 1002 0 4611686018427387904) (.c 0)) (.c 2) (.c 0))) (.cl 1004 (-9223372036854775808) 9223372036854775807)))
  (.br (.b .le .i64 (.b .padd .i64 (.ite (.b .eq .i64 (.w .i64 (.f 13 (.f 13 (.v 4) (.cl 1002 0 4611686018427387904) (.c 0)) (.c 2) (.c 0))) (.cl 1004 (-9223372036854775808) 9223372036854775807)) (.c 0) (.cl 1004 (-9223372036854775808) 9223372036854775807)) (.b .psub .i64 (.w .i64 (.f 13 (.f 13 (.v 4) (.cl 1002 0 4611686018427387904) (.c 0)) (.c 2) (.c 0))) (.cl 1004 (-9223372036854775808) 9223372036854775807))) (.w .i64 (.f 13 (.f 13 (.v 4) (.cl 1002 0 4611686018427387904) (.c 0)) (.c 2) (.c 0))))
  (.new 1007 (.b .min .i64 (.cl 1004 (-9223372036854775808) 9223372036854775807) (.b .psub .i64 (.w .i64 (.f 13 (.f 13 (.v 4) (.cl 1002 0 4611686018427387904) (.c 0)) (.c 2) (.c 0))) (.cl 1004 (-9223372036854775808) 9223372036854775807)))
  (.back [(.w .i64 (.b .padd .i64 (.cl 1004 (-9223372036854775808) 9223372036854775807) (.cl 1007 (-18446744073709551615) 9223372036854775807))), (.f 16 (.f 16 (.v 1005) (.ite (.b .eq .i64 (.w .i64 (.f 13 (.f 13 (.v 4) (.cl 1002 0 4611686018427387904) (.c 0)) (.c 2) (.c 0))) (.cl 1004 (-9223372036854775808) 9223372036854775807)) (.c 0) (.cl 1004 (-9223372036854775808) 9223372036854775807)) (.v 1005)) (.b .padd .i64 (.ite (.b .eq .i64 (.w .i64 (.f 13 (.f 13 (.v 4) (.cl 1002 0 4611686018427387904) (.c 0)) (.c 2) (.c 0))) (.cl 1004 (-9223372036854775808) 9223372036854775807)) (.c 0) (.cl 1004 (-9223372036854775808) 9223372036854775807)) (.b .min .i64 (.cl 1004 (-9223372036854775808) 9223372036854775807) (.b .psub .i64 (.w .i64 (.f 13 (.f 13 (.v 4) (.cl 1002 0 4611686018427387904) (.c 0)) (.c 2) (.c 0))) (.cl 1004 (-9223372036854775808) 9223372036854775807)))) (.f 18 (.v 1005) (.b .padd .i64 (.ite (.b .eq .i64 (.w .i64 (.f 13 (.f 13 (.v 4) (.cl 1002 0 4611686018427387904) (.c 0)) (.c 2) (.c 0))) (.cl 1004 (-9223372036854775808) 9223372036854775807)) (.c 0) (.cl 1004 (-9223372036854775808) 9223372036854775807)) (.b .min .i64 (.cl 1004 (-9223372036854775808) 9223372036854775807) (.b .psub .i64 (.w .i64 (.f 13 (.f 13 (.v 4) (.cl 1002 0 4611686018427387904) (.c 0)) (.c 2) (.c 0))) (.cl 1004 (-9223372036854775808) 9223372036854775807)))) (.c 0)))]))
  (.bad 200))
  (.bad 200))
  (.bad 200))
  (.bad 200))
  (.bad 200))
  (.exit 0))
  (.br (.b .le .i64 (.b .padd .i64 (.cl 1001 0 1000000) (.w .i64 (.f 13 (.f 13 (.v 4) (.cl 1002 0 4611686018427387904) (.c 0)) (.c 2) (.c 0)))) (.c 1000000))
  (.br (.b .le .i64 (.c 0) (.b .padd .i64 (.cl 1001 0 1000000) (.w .i64 (.f 13 (.f 13 (.v 4) (.cl 1002 0 4611686018427387904) (.c 0)) (.c 2) (.c 0)))))
  (.br (.b .le .i64 (.b .padd .i64 (.cl 1001 0 1000000) (.w .i64 (.f 13 (.f 13 (.v 4) (.cl 1002 0 4611686018427387904) (.c 0)) (.c 2) (.c 0)))) (.c 1000000))
  (.br (.b .le .i64 (.b .padd .i64 (.cl 1002 0 4611686018427387904) (.c 1)) (.c 4611686018427387904))
  (.back [(.f 16 (.v 1000) (.cl 1001 0 1000000) (.v 1005)), (.b .padd .i64 (.cl 1001 0 1000000) (.w .i64 (.f 13 (.f 13 (.v 4) (.cl 1002 0 4611686018427387904) (.c 0)) (.c 2) (.c 0)))), (.b .padd .i64 (.cl 1002 0 4611686018427387904) (.c 1))])
  (.bad 303))
  (.bad 303))
  (.bad 303))
  (.bad 200)))
  (.bad 200))
  (.bad 200)))))
  (.exit 0))
  (.leaf [(.cl 1001 0 1000000), (.v 1000)]))

def P (size used n live q : Int) : Prop :=
 ∃ I1000 : Int → Int → Int → Nat → Prop, (∃ m, I1000 0 0 0 m) ∧
 ∀ y1000 y1001 y1002 : Int, ∀ m1000, (True ∧ (0 ≤ y1001 ∧ y1001 ≤ 1000000) ∧ (0 ≤ y1002 ∧ y1002 ≤ 4611686018427387904) ∧ True) → I1000 y1000 y1001 y1002 m1000 →
  (((bool01 (decide (y1002 < n))) ≠ 0 →
   (((bool01 (decide ((IntKind.wrap .i64 (rdZ (rdZ q y1002) 2)) < 0))) ≠ 0 →
    False) ∧ ((bool01 (decide ((IntKind.wrap .i64 (rdZ (rdZ q y1002) 2)) < 0))) = 0 →
    (((bool01 (decide (0 < ((shrZ .u64 (shrZ .u64 (band .u64 (IntKind.wrap .u64 (rdZ (rdZ q y1002) 2)) 4294967295) 32) 32) + (shrZ .u64 ((band .u64 (shrZ .u64 (band .u64 (IntKind.wrap .u64 (rdZ (rdZ q y1002) 2)) 4294967295) 32) 4294967295) + (shrZ .u64 (IntKind.wrap .u64 (rdZ (rdZ q y1002) 2)) 32)) 32))))) ≠ 0 →
     False) ∧ ((bool01 (decide (0 < ((shrZ .u64 (shrZ .u64 (band .u64 (IntKind.wrap .u64 (rdZ (rdZ q y1002) 2)) 4294967295) 32) 32) + (shrZ .u64 ((band .u64 (shrZ .u64 (band .u64 (IntKind.wrap .u64 (rdZ (rdZ q y1002) 2)) 4294967295) 32) 4294967295) + (shrZ .u64 (IntKind.wrap .u64 (rdZ (rdZ q y1002) 2)) 32)) 32))))) = 0 →
     (((bool01 (decide (9223372036854775807 < (IntKind.wrap .u64 (rdZ (rdZ q y1002) 2))))) ≠ 0 →
      False) ∧ ((bool01 (decide (9223372036854775807 < (IntKind.wrap .u64 (rdZ (rdZ q y1002) 2))))) = 0 →
      (((bool01 (decide (0 ≤ (IntKind.wrap .i64 (rdZ (rdZ q y1002) 2))))) ≠ 0 →
       (((bool01 (decide ((IntKind.wrap .i64 (rdZ (rdZ q y1002) 2)) ≤ 1000000))) ≠ 0 →
        ∃ I1004 : Int → Int → Nat → Prop, (∃ m, I1004 (minZ 1 (IntKind.wrap .i64 (rdZ (rdZ q y1002) 2))) (appZ (updZ 0 0 (rdZ (rdZ q y1002) 3)) (minZ 1 (IntKind.wrap .i64 (rdZ (rdZ q y1002) 2))) (dropZ 0 (minZ 1 (IntKind.wrap .i64 (rdZ (rdZ q y1002) 2))))) m) ∧
        ∀ y1004 y1005 : Int, ∀ m1004, (((-9223372036854775808) ≤ y1004 ∧ y1004 ≤ 9223372036854775807) ∧ True ∧ True) → I1004 y1004 y1005 m1004 →
         (((bool01 (decide (y1004 < (IntKind.wrap .i64 (rdZ (rdZ q y1002) 2))))) ≠ 0 →
          (((bool01 (decide (0 ≤ y1004))) ≠ 0 →
           (((bool01 (decide (y1004 ≤ (IntKind.wrap .i64 (rdZ (rdZ q y1002) 2))))) ≠ 0 →
            (((bool01 (decide (0 ≤ (iteZ (bool01 ((IntKind.wrap .i64 (rdZ (rdZ q y1002) 2)) == y1004)) 0 y1004)))) ≠ 0 →
             (((bool01 (decide (0 ≤ ((IntKind.wrap .i64 (rdZ (rdZ q y1002) 2)) - y1004)))) ≠ 0 →
              (((bool01 (decide (((iteZ (bool01 ((IntKind.wrap .i64 (rdZ (rdZ q y1002) 2)) == y1004)) 0 y1004) + ((IntKind.wrap .i64 (rdZ (rdZ q y1002) 2)) - y1004)) ≤ (IntKind.wrap .i64 (rdZ (rdZ q y1002) 2))))) ≠ 0 →
               ∀ y1007 : Int, y1007 = (minZ y1004 ((IntKind.wrap .i64 (rdZ (rdZ q y1002) 2)) - y1004)) → ((-18446744073709551615) ≤ y1007 ∧ y1007 ≤ 9223372036854775807) →
               ∃ m', m' < m1004 ∧ I1004 (IntKind.wrap .i64 (y1004 + y1007)) (appZ (appZ y1005 (iteZ (bool01 ((IntKind.wrap .i64 (rdZ (rdZ q y1002) 2)) == y1004)) 0 y1004) y1005) ((iteZ (bool01 ((IntKind.wrap .i64 (rdZ (rdZ q y1002) 2)) == y1004)) 0 y1004) + (minZ y1004 ((IntKind.wrap .i64 (rdZ (rdZ q y1002) 2)) - y1004))) (dropZ y1005 ((iteZ (bool01 ((IntKind.wrap .i64 (rdZ (rdZ q y1002) 2)) == y1004)) 0 y1004) + (minZ y1004 ((IntKind.wrap .i64 (rdZ (rdZ q y1002) 2)) - y1004))))) m') ∧ ((bool01 (decide (((iteZ (bool01 ((IntKind.wrap .i64 (rdZ (rdZ q y1002) 2)) == y1004)) 0 y1004) + ((IntKind.wrap .i64 (rdZ (rdZ q y1002) 2)) - y1004)) ≤ (IntKind.wrap .i64 (rdZ (rdZ q y1002) 2))))) = 0 →
               False))) ∧ ((bool01 (decide (0 ≤ ((IntKind.wrap .i64 (rdZ (rdZ q y1002) 2)) - y1004)))) = 0 →
              False))) ∧ ((bool01 (decide (0 ≤ (iteZ (bool01 ((IntKind.wrap .i64 (rdZ (rdZ q y1002) 2)) == y1004)) 0 y1004)))) = 0 →
             False))) ∧ ((bool01 (decide (y1004 ≤ (IntKind.wrap .i64 (rdZ (rdZ q y1002) 2))))) = 0 →
            False))) ∧ ((bool01 (decide (0 ≤ y1004))) = 0 →
           False))) ∧ ((bool01 (decide (y1004 < (IntKind.wrap .i64 (rdZ (rdZ q y1002) 2))))) = 0 →
          (((bool01 (decide ((y1001 + (IntKind.wrap .i64 (rdZ (rdZ q y1002) 2))) ≤ 1000000))) ≠ 0 →
           (((bool01 (decide (0 ≤ (y1001 + (IntKind.wrap .i64 (rdZ (rdZ q y1002) 2)))))) ≠ 0 →
            (((bool01 (decide ((y1001 + (IntKind.wrap .i64 (rdZ (rdZ q y1002) 2))) ≤ 1000000))) ≠ 0 →
             (((bool01 (decide ((y1002 + 1) ≤ 4611686018427387904))) ≠ 0 →
              ∃ m', m' < m1000 ∧ I1000 (appZ y1000 y1001 y1005) (y1001 + (IntKind.wrap .i64 (rdZ (rdZ q y1002) 2))) (y1002 + 1) m') ∧ ((bool01 (decide ((y1002 + 1) ≤ 4611686018427387904))) = 0 →
              False))) ∧ ((bool01 (decide ((y1001 + (IntKind.wrap .i64 (rdZ (rdZ q y1002) 2))) ≤ 1000000))) = 0 →
             False))) ∧ ((bool01 (decide (0 ≤ (y1001 + (IntKind.wrap .i64 (rdZ (rdZ q y1002) 2)))))) = 0 →
            False))) ∧ ((bool01 (decide ((y1001 + (IntKind.wrap .i64 (rdZ (rdZ q y1002) 2))) ≤ 1000000))) = 0 →
           False))))) ∧ ((bool01 (decide ((IntKind.wrap .i64 (rdZ (rdZ q y1002) 2)) ≤ 1000000))) = 0 →
        False))) ∧ ((bool01 (decide (0 ≤ (IntKind.wrap .i64 (rdZ (rdZ q y1002) 2))))) = 0 →
       False))))))))) ∧ ((bool01 (decide (y1002 < n))) = 0 →
   (y1001 : Int) = (usedZ q n) ∧ rowEq [.bool] y1000 (secC q n) (usedZ q n) ∧ True))

theorem holds (size used n live q : Int) (l_size : -9223372036854775808 ≤ size) (u_size : size ≤ 9223372036854775807) (l_used : -9223372036854775808 ≤ used) (u_used : used ≤ 9223372036854775807) (l_n : 0 ≤ n) (u_n : n ≤ 100) (l_live : 0 ≤ live) (u_live : live ≤ 1) (h_pre0 : (okQ q n) ≠ 0) : P size used n live q := by
  unfold P
  simp only [b01_eq, decide_eq_true_eq, decide_eq_false_iff_not, beq_iff_eq, beq_eq_false_iff_ne, bne_iff_ne, bne_eq_false_iff_eq, Int.not_le, Int.not_lt, true_and, and_true, iteZ_ne, ne_eq, Bool.not_eq_false, Bool.not_eq_true, not_true_eq_false, not_false_eq_true, Decidable.not_not, forall_const, false_implies, true_iff, iff_true, false_iff, iff_false, Int.reduceEq, Int.reduceNeg, eq_self, if_true, if_false, reduceIte]
  have hok := (okQ_ne q n).1 h_pre0
  refine ⟨fun c s i m => s = usedF q i.toNat ∧ Rw c (secF q i.toNat) ∧ i ≤ n ∧ m = (n - i).toNat, ⟨_, rfl, Rw.nil _, l_n, rfl⟩, fun c s i m hb hI => ?_⟩
  obtain ⟨rfl, hc, hi, rfl⟩ := hI
  have hi0 := nat_i hb.2.1
  refine ⟨fun h1 => ?_, fun h1 => ?_⟩
  · have h1 : i < n := by simpa [b01_ne] using h1
    have hq := hok i.toNat (by omega)
    have hu := okRg_used hok i.toNat (by omega)
    have hs := usedF_succ hok (i := i.toNat) (by omega)
    have hu2 := okRg_used hok (i.toNat + 1) (by omega)
    have hl := secF_len hok i.toNat (by omega)
    rw [hi0] at hq hs
    unfold mk at hq hs
    have hw := w_u64 (x := rdZ (rdZ q i) 2) (L := (IntKind.wrap .i64 (rdZ (rdZ q i) 2))) rfl (by omega)
    have hhi := rep_hi (L := (IntKind.wrap .i64 (rdZ (rdZ q i) 2))) (by omega) (by omega)
    simp only [hw, hhi]
    have hm : minZ 1 (IntKind.wrap .i64 (rdZ (rdZ q i) 2)) = 1 := by unfold minZ; split <;> omega
    simp only [hm]
    clear hm hw hhi
    refine ⟨fun _ => by omega, fun _ => ⟨fun h => absurd h (by omega), fun _ => ⟨fun _ => by omega, fun _ => ⟨fun _ => ⟨fun _ => ?_, fun _ => by omega⟩, fun _ => by omega⟩⟩⟩⟩
    refine ⟨fun k d m => 1 ≤ k ∧ k ≤ (IntKind.wrap .i64 (rdZ (rdZ q i) 2)) ∧ (∀ j : Nat, (j : Int) < k → rdZ d j = rdZ (rdZ q i) 3) ∧ m = ((IntKind.wrap .i64 (rdZ (rdZ q i) 2)) - k).toNat, ⟨_, by omega, by omega, fun j hj => ?_, rfl⟩, fun k d m hk hI => ?_⟩
    · rw [rdZ_app, if_pos (by omega), rdZ_upd, if_pos (by omega)]
    · obtain ⟨k1, k2, hd, rfl⟩ := hI
      refine ⟨fun h2 => ?_, fun h2 => ?_⟩
      · simp only [if_neg (show ¬ (IntKind.wrap .i64 (rdZ (rdZ q i) 2)) = k by omega)]
        refine ⟨fun _ => ⟨fun _ => ⟨fun _ => ⟨fun _ => ⟨fun _ y hy _ => ?_, fun _ => by omega⟩, fun _ => by omega⟩, fun _ => by omega⟩, fun _ => by omega⟩, fun _ => by omega⟩
        have hy1 : 1 ≤ minZ k ((IntKind.wrap .i64 (rdZ (rdZ q i) 2)) - k) ∧ minZ k ((IntKind.wrap .i64 (rdZ (rdZ q i) 2)) - k) ≤ k ∧ minZ k ((IntKind.wrap .i64 (rdZ (rdZ q i) 2)) - k) ≤ (IntKind.wrap .i64 (rdZ (rdZ q i) 2)) - k := by unfold minZ; split <;> omega
        rw [← hy] at hy1 ⊢
        rw [w64 (x := k + y) (by omega) (by omega)]
        refine ⟨_, ?_, by omega, by omega, fun j hj => ?_, rfl⟩
        · omega
        · rw [rdZ_app, if_pos (by omega), rdZ_app]
          split
          · exact hd j (by omega)
          · exact hd _ (by omega)
      · refine ⟨fun _ => ⟨fun _ => ⟨fun _ => ⟨fun _ => ⟨_, ?_, ?_, ?_, ?_, rfl⟩, fun _ => by omega⟩, fun _ => by omega⟩, fun _ => by omega⟩, fun _ => by omega⟩
        · omega
        · rw [succ_i hb.2.1, hs]
        · rw [succ_i hb.2.1, secF, hi0]
          have := Rw.app (d := d) (v := rdZ (rdZ q i) 3) (k := (IntKind.wrap .i64 (rdZ (rdZ q i) 2)).toNat) hc (n := usedF q i.toNat) hl.symm (fun j hj => hd j (by omega))
          exact this
        · omega
  · have e : i = n := by omega
    subst e
    have hl := secF_len hok i.toNat (by omega)
    exact ⟨rfl, hc.eq (by unfold usedZ; omega)⟩

theorem plain (i : Nat → Int) (v : Nat → Value) (ro : Nat → RO) (p : Program) : TT.hdP (rk.rh.cx (cxOf 2)) (rsF ⟨i, fN, v, ro, p⟩ rk.rs) tree ⟨i, fN, v, ro, p⟩ = P (i 0) (i 1) (i 2) (i 3) (i 4) := by kernel_rfl
theorem ran : TT.beq (projL (rk.pj (cxOf 2)) (runH us (fun _ _ => .auto) rk 2 rk.f rk.args ⟨rk.inb, []⟩)) tree = true := by kernel_rfl
theorem fineT : (TT.fine (rk.rh.cx (cxOf 2)) 1000 [] tree && (rk.rh.cx (cxOf 2)).okB 1000 && SV.vbL 1000 rk.args && TT.tidy (rk.rh.cx (cxOf 2)) [] tree) = true := by kernel_rfl
theorem fineB : blVb 1000 rk.inb = true := by kernel_rfl
theorem ok : RhOk (cxOf 2) rk.rh :=
  rk_run (runH_ok us_ok (fun _ _ => .auto) rk 2) ran fineT fineB okk fun ρ hρ hpre => by
    obtain ⟨i, f, v, ro, p⟩ := ρ
    have hf : f = fN := hρ.hF
    subst hf
    rw [plain]
    exact holds (i 0) (i 1) (i 2) (i 3) (i 4) (hρ.hi 0 _ rfl).1 (hρ.hi 0 _ rfl).2 (hρ.hi 1 _ rfl).1 (hρ.hi 1 _ rfl).2 (hρ.hi 2 _ rfl).1 (hρ.hi 2 _ rfl).2 (hρ.hi 3 _ rfl).1 (hρ.hi 3 _ rfl).2 (hpre _ (List.mem_of_getElem? (i := 0) rfl))
end Go.Proofs.YtefpbddmpiaaiaaDoor.CPSec
