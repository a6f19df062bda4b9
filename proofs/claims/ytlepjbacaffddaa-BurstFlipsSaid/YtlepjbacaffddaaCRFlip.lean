/-
  What astrolaberef12.Flip answers, as numbers of what it is handed: its run by the engine, and the plain statement behind it. No condition.
-/
import Derived.Test.YtlepjbacaffddaaGab
import Derived.Test.YtlepjbacaffddaaGmF
namespace Go.Proofs.Ytlepjbacaffddaa.CRFlip
open Go.Eng Go.RowKit
set_option linter.unusedVariables false
set_option linter.unusedSimpArgs false
set_option maxRecDepth 100000
def rc : Rc := ⟨16, [none, none, none], [.row [.int .u8] 100000, .int .i64, .int .u16], [], .one, [.row [.int .u8] 5 (.f 34 (.v 3) (.v 0) (listE [(.v 1), (.v 2)])) (.v 0)]⟩
theorem okb : rc.ok = true := by kernel_rfl
noncomputable def us : SMs := fun m n => smR (m.cx (cxOf n)) []
theorem us_ok : SMsOk us := fun m n => smR_ok (rcs_nil _)
def tree : TT (List E) :=
(.loop ⟨1000, [some (-9223372036854775808, 9223372036854775807), some (0, 4611686018427387904), none], [(.v 2), (.c 0), (.f 16 (.c 0) (.c 0) (.v 3))], 1013⟩
  (.br (.b .lt .i64 (.cl 1001 0 4611686018427387904) (.c 16))
  (.br (.b .lt .i64 (.b .pmul .i64 (.c 8) (.v 0)) (.v 1))
  (.br (.b .le .i64 (.b .padd .i64 (.cl 1001 0 4611686018427387904) (.c 1)) (.c 4611686018427387904))
  (.back [(.b .rem .i64 (.w .i64 (.b .pmul .i64 (.c 2) (.cl 1000 (-9223372036854775808) 9223372036854775807))) (.c 65536)), (.b .padd .i64 (.cl 1001 0 4611686018427387904) (.c 1)), (.v 1002)])
  (.bad 303))
  (.br (.b .lt .i64 (.v 1) (.c (-16)))
  (.br (.b .le .i64 (.b .padd .i64 (.cl 1001 0 4611686018427387904) (.c 1)) (.c 4611686018427387904))
  (.back [(.b .rem .i64 (.w .i64 (.b .pmul .i64 (.c 2) (.cl 1000 (-9223372036854775808) 9223372036854775807))) (.c 65536)), (.b .padd .i64 (.cl 1001 0 4611686018427387904) (.c 1)), (.v 1002)])
  (.bad 303))
  (.br (.nt (.b .le .i64 (.c 32768) (.cl 1000 (-9223372036854775808) 9223372036854775807)))
  (.br (.b .le .i64 (.b .padd .i64 (.cl 1001 0 4611686018427387904) (.c 1)) (.c 4611686018427387904))
  (.back [(.b .rem .i64 (.w .i64 (.b .pmul .i64 (.c 2) (.cl 1000 (-9223372036854775808) 9223372036854775807))) (.c 65536)), (.b .padd .i64 (.cl 1001 0 4611686018427387904) (.c 1)), (.v 1002)])
  (.bad 303))
  (.br (.b .lt .i64 (.w .i64 (.b .padd .i64 (.v 1) (.cl 1001 0 4611686018427387904))) (.c 0))
  (.br (.b .le .i64 (.b .padd .i64 (.cl 1001 0 4611686018427387904) (.c 1)) (.c 4611686018427387904))
  (.back [(.b .rem .i64 (.w .i64 (.b .pmul .i64 (.c 2) (.cl 1000 (-9223372036854775808) 9223372036854775807))) (.c 65536)), (.b .padd .i64 (.cl 1001 0 4611686018427387904) (.c 1)), (.v 1002)])
  (.bad 303))
  (.br (.b .le .i64 (.b .pmul .i64 (.c 8) (.v 0)) (.w .i64 (.b .padd .i64 (.v 1) (.cl 1001 0 4611686018427387904))))
  (.br (.b .le .i64 (.b .padd .i64 (.cl 1001 0 4611686018427387904) (.c 1)) (.c 4611686018427387904))
  (.back [(.b .rem .i64 (.w .i64 (.b .pmul .i64 (.c 2) (.cl 1000 (-9223372036854775808) 9223372036854775807))) (.c 65536)), (.b .padd .i64 (.cl 1001 0 4611686018427387904) (.c 1)), (.v 1002)])
  (.bad 303))
  (.loop ⟨1004, [some (0, 255), some (-4611686018427387904, 4611686018427387904)], [(.c 1), (.b .rem .i64 (.w .i64 (.b .padd .i64 (.v 1) (.cl 1001 0 4611686018427387904))) (.c 8))], 1007⟩
  (.br (.b .lt .i64 (.cl 1005 (-4611686018427387904) 4611686018427387904) (.c 7))
  (.br (.b .le .i64 (.b .padd .i64 (.cl 1005 (-4611686018427387904) 4611686018427387904) (.c 1)) (.c 4611686018427387904))
  (.back [(.w .u8 (.b .pmul .i64 (.c 2) (.cl 1004 0 255))), (.b .padd .i64 (.cl 1005 (-4611686018427387904) 4611686018427387904) (.c 1))])
  (.bad 303))
  (.exit 0))
  (.br (.b .le .i64 (.c 0) (.b .quo .i64 (.w .i64 (.b .padd .i64 (.v 1) (.cl 1001 0 4611686018427387904))) (.c 8)))
  (.br (.b .lt .i64 (.b .quo .i64 (.w .i64 (.b .padd .i64 (.v 1) (.cl 1001 0 4611686018427387904))) (.c 8)) (.v 0))
  (.loop ⟨1009, [some (-9223372036854775808, 9223372036854775807), some (-4611686018427387904, 4611686018427387904)], [(.w .u8 (.f 13 (.v 1002) (.b .quo .i64 (.w .i64 (.b .padd .i64 (.v 1) (.cl 1001 0 4611686018427387904))) (.c 8)) (.c 0))), (.b .rem .i64 (.w .i64 (.b .padd .i64 (.v 1) (.cl 1001 0 4611686018427387904))) (.c 8))], 1012⟩
  (.br (.b .lt .i64 (.cl 1010 (-4611686018427387904) 4611686018427387904) (.c 7))
  (.br (.b .le .i64 (.b .padd .i64 (.cl 1010 (-4611686018427387904) 4611686018427387904) (.c 1)) (.c 4611686018427387904))
  (.back [(.b .quo .i64 (.cl 1009 (-9223372036854775808) 9223372036854775807) (.c 2)), (.b .padd .i64 (.cl 1010 (-4611686018427387904) 4611686018427387904) (.c 1))])
  (.bad 303))
  (.exit 0))
  (.br (.b .eq .i64 (.b .rem .i64 (.cl 1009 (-9223372036854775808) 9223372036854775807) (.c 2)) (.c 1))
  (.br (.b .le .i64 (.b .padd .i64 (.cl 1001 0 4611686018427387904) (.c 1)) (.c 4611686018427387904))
  (.back [(.b .rem .i64 (.w .i64 (.b .pmul .i64 (.c 2) (.cl 1000 (-9223372036854775808) 9223372036854775807))) (.c 65536)), (.b .padd .i64 (.cl 1001 0 4611686018427387904) (.c 1)), (.f 14 (.v 1002) (.b .quo .i64 (.w .i64 (.b .padd .i64 (.v 1) (.cl 1001 0 4611686018427387904))) (.c 8)) (.w .u8 (.b .psub .i64 (.w .u8 (.f 13 (.v 1002) (.b .quo .i64 (.w .i64 (.b .padd .i64 (.v 1) (.cl 1001 0 4611686018427387904))) (.c 8)) (.c 0))) (.cl 1004 0 255))))])
  (.bad 303))
  (.br (.b .le .i64 (.b .padd .i64 (.cl 1001 0 4611686018427387904) (.c 1)) (.c 4611686018427387904))
  (.back [(.b .rem .i64 (.w .i64 (.b .pmul .i64 (.c 2) (.cl 1000 (-9223372036854775808) 9223372036854775807))) (.c 65536)), (.b .padd .i64 (.cl 1001 0 4611686018427387904) (.c 1)), (.f 14 (.v 1002) (.b .quo .i64 (.w .i64 (.b .padd .i64 (.v 1) (.cl 1001 0 4611686018427387904))) (.c 8)) (.w .u8 (.b .padd .i64 (.w .u8 (.f 13 (.v 1002) (.b .quo .i64 (.w .i64 (.b .padd .i64 (.v 1) (.cl 1001 0 4611686018427387904))) (.c 8)) (.c 0))) (.cl 1004 0 255))))])
  (.bad 303))))
  (.bad 200))
  (.bad 200))))))))
  (.exit 0))
  (.leaf [(.v 0), (.v 1002)]))

def P (n0 p1 p2 c0 r0 : Int) : Prop :=
 ∃ I1000 : Int → Int → Int → Nat → Prop, (∃ m, I1000 p2 0 (appZ 0 0 c0) m) ∧
 ∀ y1000 y1001 y1002 : Int, ∀ m1000, (((-9223372036854775808) ≤ y1000 ∧ y1000 ≤ 9223372036854775807) ∧ (0 ≤ y1001 ∧ y1001 ≤ 4611686018427387904) ∧ True ∧ True) → I1000 y1000 y1001 y1002 m1000 →
  (((bool01 (decide (y1001 < 16))) ≠ 0 →
   (((bool01 (decide ((8 * n0) < p1))) ≠ 0 →
    (((bool01 (decide ((y1001 + 1) ≤ 4611686018427387904))) ≠ 0 →
     ∃ m', m' < m1000 ∧ I1000 (BO.ev .rem .i64 (IntKind.wrap .i64 (2 * y1000)) 65536) (y1001 + 1) y1002 m') ∧ ((bool01 (decide ((y1001 + 1) ≤ 4611686018427387904))) = 0 →
     False))) ∧ ((bool01 (decide ((8 * n0) < p1))) = 0 →
    (((bool01 (decide (p1 < (-16)))) ≠ 0 →
     (((bool01 (decide ((y1001 + 1) ≤ 4611686018427387904))) ≠ 0 →
      ∃ m', m' < m1000 ∧ I1000 (BO.ev .rem .i64 (IntKind.wrap .i64 (2 * y1000)) 65536) (y1001 + 1) y1002 m') ∧ ((bool01 (decide ((y1001 + 1) ≤ 4611686018427387904))) = 0 →
      False))) ∧ ((bool01 (decide (p1 < (-16)))) = 0 →
     (((bool01 ((bool01 (decide (32768 ≤ y1000))) == 0)) ≠ 0 →
      (((bool01 (decide ((y1001 + 1) ≤ 4611686018427387904))) ≠ 0 →
       ∃ m', m' < m1000 ∧ I1000 (BO.ev .rem .i64 (IntKind.wrap .i64 (2 * y1000)) 65536) (y1001 + 1) y1002 m') ∧ ((bool01 (decide ((y1001 + 1) ≤ 4611686018427387904))) = 0 →
       False))) ∧ ((bool01 ((bool01 (decide (32768 ≤ y1000))) == 0)) = 0 →
      (((bool01 (decide ((IntKind.wrap .i64 (p1 + y1001)) < 0))) ≠ 0 →
       (((bool01 (decide ((y1001 + 1) ≤ 4611686018427387904))) ≠ 0 →
        ∃ m', m' < m1000 ∧ I1000 (BO.ev .rem .i64 (IntKind.wrap .i64 (2 * y1000)) 65536) (y1001 + 1) y1002 m') ∧ ((bool01 (decide ((y1001 + 1) ≤ 4611686018427387904))) = 0 →
        False))) ∧ ((bool01 (decide ((IntKind.wrap .i64 (p1 + y1001)) < 0))) = 0 →
       (((bool01 (decide ((8 * n0) ≤ (IntKind.wrap .i64 (p1 + y1001))))) ≠ 0 →
        (((bool01 (decide ((y1001 + 1) ≤ 4611686018427387904))) ≠ 0 →
         ∃ m', m' < m1000 ∧ I1000 (BO.ev .rem .i64 (IntKind.wrap .i64 (2 * y1000)) 65536) (y1001 + 1) y1002 m') ∧ ((bool01 (decide ((y1001 + 1) ≤ 4611686018427387904))) = 0 →
         False))) ∧ ((bool01 (decide ((8 * n0) ≤ (IntKind.wrap .i64 (p1 + y1001))))) = 0 →
        ∃ I1004 : Int → Int → Nat → Prop, (∃ m, I1004 1 (BO.ev .rem .i64 (IntKind.wrap .i64 (p1 + y1001)) 8) m) ∧
        ∀ y1004 y1005 : Int, ∀ m1004, ((0 ≤ y1004 ∧ y1004 ≤ 255) ∧ ((-4611686018427387904) ≤ y1005 ∧ y1005 ≤ 4611686018427387904) ∧ True) → I1004 y1004 y1005 m1004 →
         (((bool01 (decide (y1005 < 7))) ≠ 0 →
          (((bool01 (decide ((y1005 + 1) ≤ 4611686018427387904))) ≠ 0 →
           ∃ m', m' < m1004 ∧ I1004 (IntKind.wrap .u8 (2 * y1004)) (y1005 + 1) m') ∧ ((bool01 (decide ((y1005 + 1) ≤ 4611686018427387904))) = 0 →
           False))) ∧ ((bool01 (decide (y1005 < 7))) = 0 →
          (((bool01 (decide (0 ≤ (BO.ev .quo .i64 (IntKind.wrap .i64 (p1 + y1001)) 8)))) ≠ 0 →
           (((bool01 (decide ((BO.ev .quo .i64 (IntKind.wrap .i64 (p1 + y1001)) 8) < n0))) ≠ 0 →
            ∃ I1009 : Int → Int → Nat → Prop, (∃ m, I1009 (IntKind.wrap .u8 (rdZ y1002 (BO.ev .quo .i64 (IntKind.wrap .i64 (p1 + y1001)) 8))) (BO.ev .rem .i64 (IntKind.wrap .i64 (p1 + y1001)) 8) m) ∧
            ∀ y1009 y1010 : Int, ∀ m1009, (((-9223372036854775808) ≤ y1009 ∧ y1009 ≤ 9223372036854775807) ∧ ((-4611686018427387904) ≤ y1010 ∧ y1010 ≤ 4611686018427387904) ∧ True) → I1009 y1009 y1010 m1009 →
             (((bool01 (decide (y1010 < 7))) ≠ 0 →
              (((bool01 (decide ((y1010 + 1) ≤ 4611686018427387904))) ≠ 0 →
               ∃ m', m' < m1009 ∧ I1009 (BO.ev .quo .i64 y1009 2) (y1010 + 1) m') ∧ ((bool01 (decide ((y1010 + 1) ≤ 4611686018427387904))) = 0 →
               False))) ∧ ((bool01 (decide (y1010 < 7))) = 0 →
              (((bool01 ((BO.ev .rem .i64 y1009 2) == 1)) ≠ 0 →
               (((bool01 (decide ((y1001 + 1) ≤ 4611686018427387904))) ≠ 0 →
                ∃ m', m' < m1000 ∧ I1000 (BO.ev .rem .i64 (IntKind.wrap .i64 (2 * y1000)) 65536) (y1001 + 1) (updZ y1002 (BO.ev .quo .i64 (IntKind.wrap .i64 (p1 + y1001)) 8) (IntKind.wrap .u8 ((IntKind.wrap .u8 (rdZ y1002 (BO.ev .quo .i64 (IntKind.wrap .i64 (p1 + y1001)) 8))) - y1004))) m') ∧ ((bool01 (decide ((y1001 + 1) ≤ 4611686018427387904))) = 0 →
                False))) ∧ ((bool01 ((BO.ev .rem .i64 y1009 2) == 1)) = 0 →
               (((bool01 (decide ((y1001 + 1) ≤ 4611686018427387904))) ≠ 0 →
                ∃ m', m' < m1000 ∧ I1000 (BO.ev .rem .i64 (IntKind.wrap .i64 (2 * y1000)) 65536) (y1001 + 1) (updZ y1002 (BO.ev .quo .i64 (IntKind.wrap .i64 (p1 + y1001)) 8) (IntKind.wrap .u8 ((IntKind.wrap .u8 (rdZ y1002 (BO.ev .quo .i64 (IntKind.wrap .i64 (p1 + y1001)) 8))) + y1004))) m') ∧ ((bool01 (decide ((y1001 + 1) ≤ 4611686018427387904))) = 0 →
                False))))))) ∧ ((bool01 (decide ((BO.ev .quo .i64 (IntKind.wrap .i64 (p1 + y1001)) 8) < n0))) = 0 →
            False))) ∧ ((bool01 (decide (0 ≤ (BO.ev .quo .i64 (IntKind.wrap .i64 (p1 + y1001)) 8)))) = 0 →
           False))))))))))))))) ∧ ((bool01 (decide (y1001 < 16))) = 0 →
   (n0 : Int) = n0 ∧ rowEq [.int .u8] y1002 (flC c0 n0 (consZ p1 (consZ p2 0))) n0 ∧ True))

theorem pow_le7 {n : Nat} (h : n ≤ 7) : (1 : Int) ≤ 2 ^ n ∧ (2 : Int) ^ n ≤ 128 := by
  have : n = 0 ∨ n = 1 ∨ n = 2 ∨ n = 3 ∨ n = 4 ∨ n = 5 ∨ n = 6 ∨ n = 7 := by omega
  rcases this with rfl | rfl | rfl | rfl | rfl | rfl | rfl | rfl <;> decide
theorem holds (n0 p1 p2 c0 r0 : Int) (l_n0 : 0 ≤ n0) (u_n0 : n0 ≤ 100000) (l_p1 : -9223372036854775808 ≤ p1) (u_p1 : p1 ≤ 9223372036854775807) (l_p2 : 0 ≤ p2) (u_p2 : p2 ≤ 65535) (h_n0 : n0 ≤ r0) : P n0 p1 p2 c0 r0 := by
  unfold P
  simp only [b01_eq, decide_eq_true_eq, decide_eq_false_iff_not, beq_iff_eq, beq_eq_false_iff_ne, bne_iff_ne, bne_eq_false_iff_eq, Int.not_le, Int.not_lt, true_and, and_true, iteZ_ne, ne_eq, Bool.not_eq_false, Bool.not_eq_true, not_true_eq_false, not_false_eq_true, Decidable.not_not, forall_const, false_implies, true_iff, iff_true, false_iff, iff_false, Int.reduceEq, Int.reduceNeg, eq_self, if_true, if_false, reduceIte, flC_eq]
  have h0 : RwK .u8 (appZ 0 0 c0) (bytZ c0 n0) := bytes_rw _ _ _ fun i _ => app0 _ _
  have hl := flF_len c0 n0 p1 p2
  refine ⟨fun x i q m => RwK .u8 q (flF c0 n0 p1 p2 i.toNat) ∧ x = dbl p2 i.toNat ∧ i ≤ 16 ∧ m = (16 - i).toNat, ⟨_, h0, by unfold dbl; simp; omega, by omega, rfl⟩, fun x i q m hb hI => ?_⟩
  obtain ⟨hq, hx, hi, rfl⟩ := hI
  obtain ⟨_, hb1, _⟩ := hb
  refine ⟨fun h3 => ?_, fun h3 => by rw [show 16 = i.toNat by omega]; exact hq.eq (by rw [hl]; omega)⟩
  have hs : (i + 1).toNat = i.toNat + 1 := by omega
  have hc : ((i.toNat : Nat) : Int) = i := by omega
  rw [dbl_step hx]
  have hd := dbl_bit (i := i.toNat) l_p2 u_p2 (by omega)
  rw [← hx] at hd
  have hno : ¬ flOn n0 p1 p2 i.toNat → ∃ m', m' < (16 - i).toNat ∧ RwK .u8 q (flF c0 n0 p1 p2 (i + 1).toNat) ∧ dbl p2 (i.toNat + 1) = dbl p2 (i + 1).toNat ∧ i + 1 ≤ 16 ∧ m' = (16 - (i + 1)).toNat := fun ho => by
    refine ⟨_, ?_, ?_, by rw [hs], by omega, rfl⟩
    · omega
    · rw [hs, flF, if_neg ho]; exact hq
  refine ⟨fun h4 => ⟨fun _ => hno fun ho => by have := ho.2; omega, fun _ => by omega⟩, fun h4 => ⟨fun h5 => ⟨fun _ => hno fun ho => by have := ho.2; omega, fun _ => by omega⟩, fun h5 => ⟨fun h6 => ⟨fun _ => hno fun ho => by have := ho.1; omega, fun _ => by omega⟩, fun h6 => ?_⟩⟩⟩
  rw [w64 (x := p1 + i) (by omega) (by omega)]
  refine ⟨fun h7 => ⟨fun _ => hno fun ho => by have := ho.2; omega, fun _ => by omega⟩, fun h7 => ⟨fun h8 => ⟨fun _ => hno fun ho => by have := ho.2; omega, fun _ => by omega⟩, fun h8 => ?_⟩⟩
  rw [rem_pos h7, quo_pos h7 (by omega) (by omega)]
  have ho : flOn n0 p1 p2 i.toNat := ⟨hd.1 h6, by omega, by omega⟩
  refine ⟨fun v j m => (p1 + i) % 8 ≤ j ∧ j ≤ 7 ∧ v = 2 ^ (j - (p1 + i) % 8).toNat ∧ m = (7 - j).toNat, ⟨_, by omega, by omega, by simp, rfl⟩, fun v j m hb3 hJ => ?_⟩
  obtain ⟨hj1, hj2, hv, rfl⟩ := hJ
  refine ⟨fun h9 => ⟨fun _ => ⟨_, ?_, by omega, by omega, ?_, rfl⟩, fun _ => by omega⟩, fun h9 => ⟨fun ha => ⟨fun hb2 => ?_, fun _ => by omega⟩, fun _ => by omega⟩⟩
  · omega
  · have hp := pow_le7 (n := (j + 1 - (p1 + i) % 8).toNat) (by omega)
    have e : (2 : Int) ^ (j + 1 - (p1 + i) % 8).toNat = 2 * v := by
      rw [hv, show (j + 1 - (p1 + i) % 8).toNat = (j - (p1 + i) % 8).toNat + 1 by omega, Int.pow_succ]; omega
    rw [← e]; exact w8 (by omega) (by omega)
  have hb8 := u8_bd (rdZ q ((p1 + i) / 8))
  refine ⟨fun x j m => (p1 + i) % 8 ≤ j ∧ j ≤ 7 ∧ x = IntKind.wrap .u8 (rdZ q ((p1 + i) / 8)) / 2 ^ (j - (p1 + i) % 8).toNat ∧ m = (7 - j).toNat, ⟨_, by omega, by omega, by simp, rfl⟩, fun y k m hb4 hK => ?_⟩
  obtain ⟨hk1, hk2, hyy, rfl⟩ := hK
  have hy0 := half_nn hb8.1 (k - (p1 + i) % 8).toNat
  have hy1 := half_le hb8.1 (k - (p1 + i) % 8).toNat
  rw [← hyy] at hy0 hy1
  refine ⟨fun hc1 => ⟨fun _ => ⟨_, ?_, by omega, by omega, ?_, rfl⟩, fun _ => by omega⟩, fun hc1 => ?_⟩
  · omega
  · rw [quo_pos hy0 (by omega) (by omega), hyy, half_step]; congr 2; omega
  rw [rem_pos hy0]
  have hbit : y % 2 = bitA (IntKind.wrap .u8 (rdZ q ((p1 + i) / 8))) ((p1 + i) % 8) := by rw [hyy, show k = 7 by omega]; rfl
  have hf := flip_one (r := (p1 + i) % 8) hb8.1 hb8.2 (by omega) (by omega)
  have hvv : v = 2 ^ (7 - (p1 + i) % 8).toNat := by rw [hv, show j = 7 by omega]
  have hfin : ∀ z, IntKind.wrap .u8 z = flipB (IntKind.wrap .u8 (rdZ q ((p1 + i) / 8))) ((p1 + i) % 8) → ∃ m', m' < (16 - i).toNat ∧ RwK .u8 (updZ q ((p1 + i) / 8) z) (flF c0 n0 p1 p2 (i + 1).toNat) ∧ dbl p2 (i.toNat + 1) = dbl p2 (i + 1).toNat ∧ i + 1 ≤ 16 ∧ m' = (16 - (i + 1)).toNat := fun z hz => by
    refine ⟨_, ?_, ?_, by rw [hs], by omega, rfl⟩
    · omega
    · rw [hs, flF, if_pos ho, hc]
      rw [hq.rd ha (by rw [hl]; omega)] at hz
      exact hq.set ha hz
  unfold flipB at hf hfin
  rw [← hbit, ← hvv] at hf hfin
  refine ⟨fun hd1 => ⟨fun _ => hfin _ ?_, fun _ => by omega⟩, fun hd1 => ⟨fun _ => hfin _ ?_, fun _ => by omega⟩⟩
  · rw [if_pos hd1] at hf ⊢
    rw [w8 hf.2.1 hf.2.2, w8 hf.2.1 hf.2.2]
  · rw [if_neg hd1] at hf ⊢
    rw [w8 hf.2.1 hf.2.2, w8 hf.2.1 hf.2.2]

theorem plain (i : Nat → Int) (v : Nat → Value) (ro : Nat → RO) (p : Program) : TT.hdP (rc.cx (cxOf 2)) (rlF ⟨i, fN, v, ro, p⟩ rc.res) tree ⟨i, fN, v, ro, p⟩ = P (i 0) (i 1) (i 2) (i 3) (i 4) := by kernel_rfl
theorem ran : TT.beq (projL (rc.pj (cxOf 2)) (runT us (fun _ _ => .auto) rc 2 rc.f rc.args ⟨[], []⟩)) tree = true := by kernel_rfl
theorem fineT : (TT.fine (rc.cx (cxOf 2)) 1000 [] tree && (rc.cx (cxOf 2)).okB 1000 && SV.vbL 1000 rc.args && TT.tidy (rc.cx (cxOf 2)) [] tree) = true := by kernel_rfl
theorem ok : RcOk (cxOf 2) rc :=
  rc_run (runT_ok us_ok (fun _ _ => .auto) rc 2) ran fineT okb fun ρ hρ hcap hpre => by
    obtain ⟨i, f, v, ro, p⟩ := ρ
    have hf : f = fN := hρ.hF
    subst hf
    rw [plain]
    exact holds (i 0) (i 1) (i 2) (i 3) (i 4) (hρ.hi 0 _ rfl).1 (hρ.hi 0 _ rfl).2 (hρ.hi 1 _ rfl).1 (hρ.hi 1 _ rfl).2 (hρ.hi 2 _ rfl).1 (hρ.hi 2 _ rfl).2 (hcap _ (List.mem_of_getElem? (i := 0) rfl))
end Go.Proofs.Ytlepjbacaffddaa.CRFlip
