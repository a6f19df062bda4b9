/-
  What astrolaberef12.Places answers, as numbers of what it is handed: its run by the engine, and the plain statement behind it. No condition.
-/
import Derived.Test.YtlepjbacaffddaaGab
import Derived.Test.YtlepjbacaffddaaGmB
namespace Go.Proofs.Ytlepjbacaffddaa.CRPlaces
open Go.Eng Go.RowKit
set_option linter.unusedVariables false
set_option linter.unusedSimpArgs false
set_option maxRecDepth 100000
def rc : Rc := ⟨12, [none, none], [.row [.int .u8] 100000, .row [.int .u8] 100000], [], .one, [.row [.int .i64] 3 (.f 31 (.v 2) (.v 3) (.v 0)) (.ite (.b .eq .i64 (.v 0) (.v 1)) (.f 30 (.v 2) (.v 3) (.v 0)) (.c 0))]⟩
theorem okb : rc.ok = true := by kernel_rfl
noncomputable def us : SMs := fun m n => smR (m.cx (cxOf n)) []
theorem us_ok : SMsOk us := fun m n => smR_ok (rcs_nil _)
def tree : TT (List E) :=
(.br (.b .ne .i64 (.v 0) (.v 1))
  (.leaf [(.c 0), (.c 0)])
  (.loop ⟨1000, [none, some (0, 1000000), some (0, 4611686018427387904)], [(.c 0), (.c 0), (.c 0)], 1013⟩
  (.br (.b .lt .i64 (.cl 1002 0 4611686018427387904) (.b .pmul .i64 (.c 8) (.v 0)))
  (.br (.b .lt .i64 (.b .quo .i64 (.cl 1002 0 4611686018427387904) (.c 8)) (.v 0))
  (.loop ⟨1004, [some (-9223372036854775808, 9223372036854775807), some (-4611686018427387904, 4611686018427387904)], [(.w .u8 (.f 13 (.v 2) (.b .quo .i64 (.cl 1002 0 4611686018427387904) (.c 8)) (.c 0))), (.b .rem .i64 (.cl 1002 0 4611686018427387904) (.c 8))], 1007⟩
  (.br (.b .lt .i64 (.cl 1005 (-4611686018427387904) 4611686018427387904) (.c 7))
  (.br (.b .le .i64 (.b .padd .i64 (.cl 1005 (-4611686018427387904) 4611686018427387904) (.c 1)) (.c 4611686018427387904))
  (.back [(.b .quo .i64 (.cl 1004 (-9223372036854775808) 9223372036854775807) (.c 2)), (.b .padd .i64 (.cl 1005 (-4611686018427387904) 4611686018427387904) (.c 1))])
  (.bad 303))
  (.exit 0))
  (.br (.b .lt .i64 (.b .quo .i64 (.cl 1002 0 4611686018427387904) (.c 8)) (.v 1))
  (.loop ⟨1009, [some (-9223372036854775808, 9223372036854775807), some (-4611686018427387904, 4611686018427387904)], [(.w .u8 (.f 13 (.v 3) (.b .quo .i64 (.cl 1002 0 4611686018427387904) (.c 8)) (.c 0))), (.b .rem .i64 (.cl 1002 0 4611686018427387904) (.c 8))], 1012⟩
  (.br (.b .lt .i64 (.cl 1010 (-4611686018427387904) 4611686018427387904) (.c 7))
  (.br (.b .le .i64 (.b .padd .i64 (.cl 1010 (-4611686018427387904) 4611686018427387904) (.c 1)) (.c 4611686018427387904))
  (.back [(.b .quo .i64 (.cl 1009 (-9223372036854775808) 9223372036854775807) (.c 2)), (.b .padd .i64 (.cl 1010 (-4611686018427387904) 4611686018427387904) (.c 1))])
  (.bad 303))
  (.exit 0))
  (.br (.b .ne .i64 (.b .rem .i64 (.cl 1004 (-9223372036854775808) 9223372036854775807) (.c 2)) (.b .rem .i64 (.cl 1009 (-9223372036854775808) 9223372036854775807) (.c 2)))
  (.br (.b .le .i64 (.b .padd .i64 (.cl 1001 0 1000000) (.c 1)) (.c 1000000))
  (.br (.b .le .i64 (.b .padd .i64 (.cl 1001 0 1000000) (.c 1)) (.c 1000000))
  (.br (.b .le .i64 (.b .padd .i64 (.cl 1002 0 4611686018427387904) (.c 1)) (.c 4611686018427387904))
  (.back [(.f 14 (.v 1000) (.cl 1001 0 1000000) (.cl 1002 0 4611686018427387904)), (.b .padd .i64 (.cl 1001 0 1000000) (.c 1)), (.b .padd .i64 (.cl 1002 0 4611686018427387904) (.c 1))])
  (.bad 303))
  (.bad 303))
  (.bad 200))
  (.br (.b .le .i64 (.b .padd .i64 (.cl 1002 0 4611686018427387904) (.c 1)) (.c 4611686018427387904))
  (.back [(.v 1000), (.cl 1001 0 1000000), (.b .padd .i64 (.cl 1002 0 4611686018427387904) (.c 1))])
  (.bad 303))))
  (.bad 200)))
  (.bad 200))
  (.exit 0))
  (.leaf [(.cl 1001 0 1000000), (.v 1000)])))

def P (n0 n1 c0 c1 r0 r1 : Int) : Prop :=
 (((bool01 (n0 != n1)) ≠ 0 →
  (0 : Int) = (iteZ (bool01 (n0 == n1)) (plN c0 c1 n0) 0) ∧ rowEq [.int .i64] 0 (plC c0 c1 n0) 0 ∧ True) ∧ ((bool01 (n0 != n1)) = 0 →
  ∃ I1000 : Int → Int → Int → Nat → Prop, (∃ m, I1000 0 0 0 m) ∧
  ∀ y1000 y1001 y1002 : Int, ∀ m1000, (True ∧ (0 ≤ y1001 ∧ y1001 ≤ 1000000) ∧ (0 ≤ y1002 ∧ y1002 ≤ 4611686018427387904) ∧ True) → I1000 y1000 y1001 y1002 m1000 →
   (((bool01 (decide (y1002 < (8 * n0)))) ≠ 0 →
    (((bool01 (decide ((BO.ev .quo .i64 y1002 8) < n0))) ≠ 0 →
     ∃ I1004 : Int → Int → Nat → Prop, (∃ m, I1004 (IntKind.wrap .u8 (rdZ c0 (BO.ev .quo .i64 y1002 8))) (BO.ev .rem .i64 y1002 8) m) ∧
     ∀ y1004 y1005 : Int, ∀ m1004, (((-9223372036854775808) ≤ y1004 ∧ y1004 ≤ 9223372036854775807) ∧ ((-4611686018427387904) ≤ y1005 ∧ y1005 ≤ 4611686018427387904) ∧ True) → I1004 y1004 y1005 m1004 →
      (((bool01 (decide (y1005 < 7))) ≠ 0 →
       (((bool01 (decide ((y1005 + 1) ≤ 4611686018427387904))) ≠ 0 →
        ∃ m', m' < m1004 ∧ I1004 (BO.ev .quo .i64 y1004 2) (y1005 + 1) m') ∧ ((bool01 (decide ((y1005 + 1) ≤ 4611686018427387904))) = 0 →
        False))) ∧ ((bool01 (decide (y1005 < 7))) = 0 →
       (((bool01 (decide ((BO.ev .quo .i64 y1002 8) < n1))) ≠ 0 →
        ∃ I1009 : Int → Int → Nat → Prop, (∃ m, I1009 (IntKind.wrap .u8 (rdZ c1 (BO.ev .quo .i64 y1002 8))) (BO.ev .rem .i64 y1002 8) m) ∧
        ∀ y1009 y1010 : Int, ∀ m1009, (((-9223372036854775808) ≤ y1009 ∧ y1009 ≤ 9223372036854775807) ∧ ((-4611686018427387904) ≤ y1010 ∧ y1010 ≤ 4611686018427387904) ∧ True) → I1009 y1009 y1010 m1009 →
         (((bool01 (decide (y1010 < 7))) ≠ 0 →
          (((bool01 (decide ((y1010 + 1) ≤ 4611686018427387904))) ≠ 0 →
           ∃ m', m' < m1009 ∧ I1009 (BO.ev .quo .i64 y1009 2) (y1010 + 1) m') ∧ ((bool01 (decide ((y1010 + 1) ≤ 4611686018427387904))) = 0 →
           False))) ∧ ((bool01 (decide (y1010 < 7))) = 0 →
          (((bool01 ((BO.ev .rem .i64 y1004 2) != (BO.ev .rem .i64 y1009 2))) ≠ 0 →
           (((bool01 (decide ((y1001 + 1) ≤ 1000000))) ≠ 0 →
            (((bool01 (decide ((y1001 + 1) ≤ 1000000))) ≠ 0 →
             (((bool01 (decide ((y1002 + 1) ≤ 4611686018427387904))) ≠ 0 →
              ∃ m', m' < m1000 ∧ I1000 (updZ y1000 y1001 y1002) (y1001 + 1) (y1002 + 1) m') ∧ ((bool01 (decide ((y1002 + 1) ≤ 4611686018427387904))) = 0 →
              False))) ∧ ((bool01 (decide ((y1001 + 1) ≤ 1000000))) = 0 →
             False))) ∧ ((bool01 (decide ((y1001 + 1) ≤ 1000000))) = 0 →
            False))) ∧ ((bool01 ((BO.ev .rem .i64 y1004 2) != (BO.ev .rem .i64 y1009 2))) = 0 →
           (((bool01 (decide ((y1002 + 1) ≤ 4611686018427387904))) ≠ 0 →
            ∃ m', m' < m1000 ∧ I1000 y1000 y1001 (y1002 + 1) m') ∧ ((bool01 (decide ((y1002 + 1) ≤ 4611686018427387904))) = 0 →
            False))))))) ∧ ((bool01 (decide ((BO.ev .quo .i64 y1002 8) < n1))) = 0 →
        False))))) ∧ ((bool01 (decide ((BO.ev .quo .i64 y1002 8) < n0))) = 0 →
     False))) ∧ ((bool01 (decide (y1002 < (8 * n0)))) = 0 →
    (y1001 : Int) = (iteZ (bool01 (n0 == n1)) (plN c0 c1 n0) 0) ∧ rowEq [.int .i64] y1000 (plC c0 c1 n0) y1001 ∧ True))))

theorem holds (n0 n1 c0 c1 r0 r1 : Int) (l_n0 : 0 ≤ n0) (u_n0 : n0 ≤ 100000) (l_n1 : 0 ≤ n1) (u_n1 : n1 ≤ 100000) (h_n0 : n0 ≤ r0) (h_n1 : n1 ≤ r1) : P n0 n1 c0 c1 r0 r1 := by
  unfold P
  simp only [b01_eq, decide_eq_true_eq, decide_eq_false_iff_not, beq_iff_eq, beq_eq_false_iff_ne, bne_iff_ne, bne_eq_false_iff_eq, Int.not_le, Int.not_lt, true_and, and_true, iteZ_ne, ne_eq, Bool.not_eq_false, Bool.not_eq_true, not_true_eq_false, not_false_eq_true, Decidable.not_not, forall_const, false_implies, true_iff, iff_true, false_iff, iff_false, Int.reduceEq, Int.reduceNeg, eq_self, if_true, if_false, reduceIte]
  refine ⟨fun h => ⟨by simp [h], rowEq_nil _ _ _ (by omega)⟩, fun h => ?_⟩
  subst h
  simp only [if_true]
  have hcut : cut (8 * n0) 1000000 = (8 * n0).toNat := by unfold cut; rw [if_pos (by omega)]
  unfold plN plC
  rw [hcut]
  refine ⟨fun q n i m => Rw q (plF c0 c1 i.toNat) ∧ n = (plF c0 c1 i.toNat).length ∧ i ≤ 8 * n0 ∧ m = (8 * n0 - i).toNat, ⟨_, Rw.nil _, by simp [plF], by omega, rfl⟩, fun q n i m hb hI => ?_⟩
  obtain ⟨hq, hn, hi, rfl⟩ := hI
  obtain ⟨hb1, hb2, _⟩ := hb
  refine ⟨fun h1 => ?_, fun h1 => ?_⟩
  · rw [quo_pos (by omega) (by omega) (by omega)]
    refine ⟨fun h2 => ?_, fun h2 => by omega⟩
    have hx := u8_bd (rdZ c0 (i / 8))
    refine ⟨fun x j m => i % 8 ≤ j ∧ j ≤ 7 ∧ x = IntKind.wrap .u8 (rdZ c0 (i / 8)) / 2 ^ (j - i % 8).toNat ∧ m = (7 - j).toNat, ⟨_, by rw [rem_pos (by omega)]; omega, by rw [rem_pos (by omega)]; omega, by rw [rem_pos (by omega)]; simp, rfl⟩, fun x j m hb3 hJ => ?_⟩
    obtain ⟨hj1, hj2, hxx, rfl⟩ := hJ
    have hx0 := half_nn hx.1 (j - i % 8).toNat
    have hx1 := half_le hx.1 (j - i % 8).toNat
    rw [← hxx] at hx0 hx1
    refine ⟨fun h3 => ⟨fun _ => ⟨_, ?_, by omega, by omega, ?_, rfl⟩, fun h4 => by omega⟩, fun h3 => ⟨fun h4 => ?_, fun h4 => by omega⟩⟩
    · omega
    · rw [quo_pos hx0 (by omega) (by omega), hxx, half_step]; congr 2; omega
    have hy := u8_bd (rdZ c1 (i / 8))
    refine ⟨fun x j m => i % 8 ≤ j ∧ j ≤ 7 ∧ x = IntKind.wrap .u8 (rdZ c1 (i / 8)) / 2 ^ (j - i % 8).toNat ∧ m = (7 - j).toNat, ⟨_, by rw [rem_pos (by omega)]; omega, by rw [rem_pos (by omega)]; omega, by rw [rem_pos (by omega)]; simp, rfl⟩, fun y k m hb4 hK => ?_⟩
    obtain ⟨hk1, hk2, hyy, rfl⟩ := hK
    have hy0 := half_nn hy.1 (k - i % 8).toNat
    have hy1 := half_le hy.1 (k - i % 8).toNat
    rw [← hyy] at hy0 hy1
    refine ⟨fun h5 => ⟨fun _ => ⟨_, ?_, by omega, by omega, ?_, rfl⟩, fun h6 => by omega⟩, fun h5 => ?_⟩
    · omega
    · rw [quo_pos hy0 (by omega) (by omega), hyy, half_step]; congr 2; omega
    rw [rem_pos hx0, rem_pos hy0]
    have ex : x % 2 = bitB c0 i := by rw [hxx, show j = 7 by omega]; rfl
    have ey : y % 2 = bitB c1 i := by rw [hyy, show k = 7 by omega]; rfl
    rw [ex, ey]
    have hs : (i + 1).toNat = i.toNat + 1 := by omega
    have hl := plF_len c0 c1 i.toNat
    have hi0 : ((i.toNat : Nat) : Int) = i := by omega
    refine ⟨fun h6 => ⟨fun _ => ⟨fun _ => ⟨fun _ => ⟨_, ?_, ?_, ?_, by omega, rfl⟩, fun h7 => by omega⟩, fun h7 => by omega⟩, fun h7 => by omega⟩, fun h6 => ⟨fun _ => ⟨_, ?_, ?_, ?_, by omega, rfl⟩, fun h7 => by omega⟩⟩
    · omega
    · rw [hs, plF, hi0, if_neg h6]; exact hq.snoc hn
    · rw [hs, plF, hi0, if_neg h6]; simp [hn]
    · omega
    · rw [hs, plF, hi0, if_pos h6, List.append_nil]; exact hq
    · rw [hs, plF, hi0, if_pos h6, List.append_nil]; exact hn
  · have e : i = 8 * n0 := by omega
    subst e
    exact ⟨hn, hq.eq (by omega)⟩

theorem plain (i : Nat → Int) (v : Nat → Value) (ro : Nat → RO) (p : Program) : TT.hdP (rc.cx (cxOf 2)) (rlF ⟨i, fN, v, ro, p⟩ rc.res) tree ⟨i, fN, v, ro, p⟩ = P (i 0) (i 1) (i 2) (i 3) (i 4) (i 5) := by kernel_rfl
theorem ran : TT.beq (projL (rc.pj (cxOf 2)) (runT us (fun _ _ => .auto) rc 2 rc.f rc.args ⟨[], []⟩)) tree = true := by kernel_rfl
theorem fineT : (TT.fine (rc.cx (cxOf 2)) 1000 [] tree && (rc.cx (cxOf 2)).okB 1000 && SV.vbL 1000 rc.args && TT.tidy (rc.cx (cxOf 2)) [] tree) = true := by kernel_rfl
theorem ok : RcOk (cxOf 2) rc :=
  rc_run (runT_ok us_ok (fun _ _ => .auto) rc 2) ran fineT okb fun ρ hρ hcap hpre => by
    obtain ⟨i, f, v, ro, p⟩ := ρ
    have hf : f = fN := hρ.hF
    subst hf
    rw [plain]
    exact holds (i 0) (i 1) (i 2) (i 3) (i 4) (i 5) (hρ.hi 0 _ rfl).1 (hρ.hi 0 _ rfl).2 (hρ.hi 1 _ rfl).1 (hρ.hi 1 _ rfl).2 (hcap _ (List.mem_of_getElem? (i := 0) rfl)) (hcap _ (List.mem_of_getElem? (i := 1) rfl))
end Go.Proofs.Ytlepjbacaffddaa.CRPlaces
