/-
  What burst.Places answers, as numbers of what it is handed: its run by the engine, and the plain statement behind it. No condition.
-/
import Derived.Test.YtlepjbacaffddaaGab
import Derived.Test.YtlepjbacaffddaaGmB
namespace Go.Proofs.Ytlepjbacaffddaa.CPlaces
open Go.Eng Go.RowKit
set_option linter.unusedVariables false
set_option linter.unusedSimpArgs false
set_option maxRecDepth 100000
def rc : Rc := ⟨11, [none, none], [.row [.int .u8] 100000, .row [.int .u8] 100000], [], .one, [.row [.int .i64] 3 (.f 31 (.v 2) (.v 3) (.v 0)) (.ite (.b .eq .i64 (.v 0) (.v 1)) (.f 30 (.v 2) (.v 3) (.v 0)) (.c 0))]⟩
theorem okb : rc.ok = true := by kernel_rfl
noncomputable def us : SMs := fun m n => smR (m.cx (cxOf n)) []
theorem us_ok : SMsOk us := fun m n => smR_ok (rcs_nil _)
def tree : TT (List E) :=
(.br (.b .ne .i64 (.v 0) (.v 1))
  (.leaf [(.c 0), (.c 0)])
  (.loop ⟨1000, [some (0, 4611686018427387904), none, some (0, 1000000)], [(.c 0), (.c 0), (.c 0)], 1010⟩
  (.br (.b .lt .i64 (.cl 1000 0 4611686018427387904) (.v 0))
  (.br (.b .lt .i64 (.cl 1000 0 4611686018427387904) (.v 1))
  (.new 1004 (.b .xor .u8 (.w .u8 (.f 13 (.v 2) (.cl 1000 0 4611686018427387904) (.c 0))) (.w .u8 (.f 13 (.v 3) (.cl 1000 0 4611686018427387904) (.c 0))))
  (.loop ⟨1005, [some (0, 4611686018427387904), none, some (0, 1000000)], [(.c 0), (.v 1001), (.cl 1002 0 1000000)], 1009⟩
  (.br (.b .lt .i64 (.cl 1005 0 4611686018427387904) (.c 8))
  (.br (.b .ne .i64 (.b .and .u8 (.cl 1004 0 255) (.b .shr .u8 (.c 128) (.cl 1005 0 4611686018427387904))) (.c 0))
  (.br (.b .le .i64 (.b .padd .i64 (.cl 1007 0 1000000) (.c 1)) (.c 1000000))
  (.br (.b .le .i64 (.b .padd .i64 (.cl 1005 0 4611686018427387904) (.c 1)) (.c 4611686018427387904))
  (.br (.b .le .i64 (.b .padd .i64 (.cl 1007 0 1000000) (.c 1)) (.c 1000000))
  (.back [(.b .padd .i64 (.cl 1005 0 4611686018427387904) (.c 1)), (.f 14 (.v 1006) (.cl 1007 0 1000000) (.w .i64 (.b .padd .i64 (.w .i64 (.b .pmul .i64 (.c 8) (.cl 1000 0 4611686018427387904))) (.cl 1005 0 4611686018427387904)))), (.b .padd .i64 (.cl 1007 0 1000000) (.c 1))])
  (.bad 303))
  (.bad 303))
  (.bad 200))
  (.br (.b .le .i64 (.b .padd .i64 (.cl 1005 0 4611686018427387904) (.c 1)) (.c 4611686018427387904))
  (.back [(.b .padd .i64 (.cl 1005 0 4611686018427387904) (.c 1)), (.v 1006), (.cl 1007 0 1000000)])
  (.bad 303)))
  (.exit 0))
  (.br (.b .le .i64 (.b .padd .i64 (.cl 1000 0 4611686018427387904) (.c 1)) (.c 4611686018427387904))
  (.back [(.b .padd .i64 (.cl 1000 0 4611686018427387904) (.c 1)), (.v 1006), (.cl 1007 0 1000000)])
  (.bad 303))))
  (.bad 200))
  (.exit 0))
  (.leaf [(.cl 1002 0 1000000), (.v 1001)])))

def P (n0 n1 c0 c1 r0 r1 : Int) : Prop :=
 (((bool01 (n0 != n1)) ≠ 0 →
  (0 : Int) = (iteZ (bool01 (n0 == n1)) (plN c0 c1 n0) 0) ∧ rowEq [.int .i64] 0 (plC c0 c1 n0) 0 ∧ True) ∧ ((bool01 (n0 != n1)) = 0 →
  ∃ I1000 : Int → Int → Int → Nat → Prop, (∃ m, I1000 0 0 0 m) ∧
  ∀ y1000 y1001 y1002 : Int, ∀ m1000, ((0 ≤ y1000 ∧ y1000 ≤ 4611686018427387904) ∧ True ∧ (0 ≤ y1002 ∧ y1002 ≤ 1000000) ∧ True) → I1000 y1000 y1001 y1002 m1000 →
   (((bool01 (decide (y1000 < n0))) ≠ 0 →
    (((bool01 (decide (y1000 < n1))) ≠ 0 →
     ∀ y1004 : Int, y1004 = (bxor .u8 (IntKind.wrap .u8 (rdZ c0 y1000)) (IntKind.wrap .u8 (rdZ c1 y1000))) → (0 ≤ y1004 ∧ y1004 ≤ 255) →
     ∃ I1005 : Int → Int → Int → Nat → Prop, (∃ m, I1005 0 y1001 y1002 m) ∧
     ∀ y1005 y1006 y1007 : Int, ∀ m1005, ((0 ≤ y1005 ∧ y1005 ≤ 4611686018427387904) ∧ True ∧ (0 ≤ y1007 ∧ y1007 ≤ 1000000) ∧ True) → I1005 y1005 y1006 y1007 m1005 →
      (((bool01 (decide (y1005 < 8))) ≠ 0 →
       (((bool01 ((band .u8 y1004 (shrZ .u8 128 y1005)) != 0)) ≠ 0 →
        (((bool01 (decide ((y1007 + 1) ≤ 1000000))) ≠ 0 →
         (((bool01 (decide ((y1005 + 1) ≤ 4611686018427387904))) ≠ 0 →
          (((bool01 (decide ((y1007 + 1) ≤ 1000000))) ≠ 0 →
           ∃ m', m' < m1005 ∧ I1005 (y1005 + 1) (updZ y1006 y1007 (IntKind.wrap .i64 ((IntKind.wrap .i64 (8 * y1000)) + y1005))) (y1007 + 1) m') ∧ ((bool01 (decide ((y1007 + 1) ≤ 1000000))) = 0 →
           False))) ∧ ((bool01 (decide ((y1005 + 1) ≤ 4611686018427387904))) = 0 →
          False))) ∧ ((bool01 (decide ((y1007 + 1) ≤ 1000000))) = 0 →
         False))) ∧ ((bool01 ((band .u8 y1004 (shrZ .u8 128 y1005)) != 0)) = 0 →
        (((bool01 (decide ((y1005 + 1) ≤ 4611686018427387904))) ≠ 0 →
         ∃ m', m' < m1005 ∧ I1005 (y1005 + 1) y1006 y1007 m') ∧ ((bool01 (decide ((y1005 + 1) ≤ 4611686018427387904))) = 0 →
         False))))) ∧ ((bool01 (decide (y1005 < 8))) = 0 →
       (((bool01 (decide ((y1000 + 1) ≤ 4611686018427387904))) ≠ 0 →
        ∃ m', m' < m1000 ∧ I1000 (y1000 + 1) y1006 y1007 m') ∧ ((bool01 (decide ((y1000 + 1) ≤ 4611686018427387904))) = 0 →
        False))))) ∧ ((bool01 (decide (y1000 < n1))) = 0 →
     False))) ∧ ((bool01 (decide (y1000 < n0))) = 0 →
    (y1002 : Int) = (iteZ (bool01 (n0 == n1)) (plN c0 c1 n0) 0) ∧ rowEq [.int .i64] y1001 (plC c0 c1 n0) y1002 ∧ True))))

theorem holds (n0 n1 c0 c1 r0 r1 : Int) (l_n0 : 0 ≤ n0) (u_n0 : n0 ≤ 100000) (l_n1 : 0 ≤ n1) (u_n1 : n1 ≤ 100000) (h_n0 : n0 ≤ r0) (h_n1 : n1 ≤ r1) : P n0 n1 c0 c1 r0 r1 := by
  unfold P
  simp only [b01_eq, decide_eq_true_eq, decide_eq_false_iff_not, beq_iff_eq, beq_eq_false_iff_ne, bne_iff_ne, bne_eq_false_iff_eq, Int.not_le, Int.not_lt, true_and, and_true, iteZ_ne, ne_eq, Bool.not_eq_false, Bool.not_eq_true, not_true_eq_false, not_false_eq_true, Decidable.not_not, forall_const, false_implies, true_iff, iff_true, false_iff, iff_false, Int.reduceEq, Int.reduceNeg, eq_self, if_true, if_false, reduceIte]
  refine ⟨fun h => ⟨by simp [h], rowEq_nil _ _ _ (by omega)⟩, fun h => ?_⟩
  subst h
  simp only [if_true]
  have hcut : cut (8 * n0) 1000000 = (8 * n0).toNat := by unfold cut; rw [if_pos (by omega)]
  unfold plN plC
  rw [hcut]
  refine ⟨fun i q n m => Rw q (plF c0 c1 (8 * i).toNat) ∧ n = (plF c0 c1 (8 * i).toNat).length ∧ i ≤ n0 ∧ m = (n0 - i).toNat, ⟨_, Rw.nil _, by simp [plF], by omega, rfl⟩, fun i q n m hb hI => ?_⟩
  obtain ⟨hq, hn, hi, rfl⟩ := hI
  obtain ⟨hb1, hb2, _⟩ := hb
  refine ⟨fun h1 => ⟨fun _ => ?_, fun h2 => by omega⟩, fun h1 => ?_⟩
  · intro v hv hvb
    have hx := u8_bd (rdZ c0 i)
    have hy := u8_bd (rdZ c1 i)
    refine ⟨fun j q n m => Rw q (plF c0 c1 (8 * i + j).toNat) ∧ n = (plF c0 c1 (8 * i + j).toNat).length ∧ j ≤ 8 ∧ m = (8 - j).toNat, ⟨_, by simpa using hq, by simpa using hn, by omega, rfl⟩, fun j q n m hb3 hJ => ?_⟩
    obtain ⟨hq, hn, hj, rfl⟩ := hJ
    obtain ⟨hb3, hb4, _⟩ := hb3
    have hl := plF_len c0 c1 (8 * i + j).toNat
    refine ⟨fun h3 => ?_, fun h3 => ⟨fun _ => ⟨_, ?_, ?_, ?_, by omega, rfl⟩, fun h4 => by omega⟩⟩
    · have hs : (8 * i + (j + 1)).toNat = (8 * i + j).toNat + 1 := by omega
      have hi0 : (((8 * i + j).toNat : Nat) : Int) = 8 * i + j := by omega
      have hd := bit_diff hx.1 hx.2 hy.1 hy.2 hb3.1 (show j ≤ 7 by omega)
      rw [← hv] at hd
      have ex : bitA (IntKind.wrap .u8 (rdZ c0 i)) j = bitB c0 (8 * i + j) := by unfold bitB; rw [show (8 * i + j) / 8 = i by omega, show (8 * i + j) % 8 = j by omega]
      have ey : bitA (IntKind.wrap .u8 (rdZ c1 i)) j = bitB c1 (8 * i + j) := by unfold bitB; rw [show (8 * i + j) / 8 = i by omega, show (8 * i + j) % 8 = j by omega]
      rw [ex, ey] at hd
      refine ⟨fun h4 => ⟨fun _ => ⟨fun _ => ⟨fun _ => ⟨_, ?_, ?_, ?_, by omega, rfl⟩, fun h7 => by omega⟩, fun h7 => by omega⟩, fun h7 => by omega⟩, fun h4 => ⟨fun _ => ⟨_, ?_, ?_, ?_, by omega, rfl⟩, fun h7 => by omega⟩⟩
      · omega
      · rw [hs, plF, hi0, if_neg (hd.1 h4), w64 (x := 8 * i) (by omega) (by omega), w64 (by omega) (by omega)]; exact hq.snoc hn
      · rw [hs, plF, hi0, if_neg (hd.1 h4)]; simp [hn]
      · omega
      · rw [hs, plF, hi0, if_pos (Decidable.not_not.1 fun h => (hd.2 h) h4), List.append_nil]; exact hq
      · rw [hs, plF, hi0, if_pos (Decidable.not_not.1 fun h => (hd.2 h) h4), List.append_nil]; exact hn
    · omega
    · rw [show (8 * (i + 1)) = 8 * i + j by omega]; exact hq
    · rw [show (8 * (i + 1)) = 8 * i + j by omega]; exact hn
  · have e : i = n0 := by omega
    subst e
    exact ⟨hn, hq.eq (by omega)⟩

theorem plain (i : Nat → Int) (v : Nat → Value) (ro : Nat → RO) (p : Program) : TT.hdP (rc.cx (cxOf 2)) (rlF ⟨i, fN, v, ro, p⟩ rc.res) tree ⟨i, fN, v, ro, p⟩ = P (i 0) (i 1) (i 2) (i 3) (i 4) (i 5) := by kernel_rfl
theorem ran : TT.beq (projL (rc.pj (cxOf 2)) (runT us (fun _ _ => .auto) rc 2 rc.f rc.args ⟨[], []⟩)) tree = true := by kernel_rfl
theorem fineT : (TT.fine (rc.cx (cxOf 2)) 1000 [] tree && (rc.cx (cxOf 2)).okB 1000 && SV.vbL 1000 rc.args && TT.tidy (rc.cx (cxOf 2)) [] tree) = true := by kernel_rfl
theorem ok : RcOk (cxOf 2) rc :=
  rc_run (runT_ok us_ok (fun _ _ => .auto) rc 2) ran fineT okb fun ρ hρ hcap hpre => by
    obtain ⟨i, f, v, ro, p⟩ := ρ
    have hf : f = fN := hρ.hF
    subst hf
    rw [plain]
    exact holds (i 0) (i 1) (i 2) (i 3) (i 4) (i 5) (hρ.hi 0 _ rfl).1 (hρ.hi 0 _ rfl).2 (hρ.hi 1 _ rfl).1 (hρ.hi 1 _ rfl).2 (hcap _ (List.mem_of_getElem? (i := 0) rfl)) (hcap _ (List.mem_of_getElem? (i := 1) rfl))
end Go.Proofs.Ytlepjbacaffddaa.CPlaces
