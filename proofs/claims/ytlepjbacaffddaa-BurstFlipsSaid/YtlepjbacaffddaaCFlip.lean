/-
  What burst.Flip answers, as numbers of what it is handed: its run by the engine, and the plain statement behind it. No condition.
-/
import Derived.Test.YtlepjbacaffddaaGab
import Derived.Test.YtlepjbacaffddaaGmF
namespace Go.Proofs.Ytlepjbacaffddaa.CFlip
open Go.Eng Go.RowKit
set_option linter.unusedVariables false
set_option linter.unusedSimpArgs false
set_option maxRecDepth 100000
def rc : Rc := ⟨15, [none, none, none], [.row [.int .u8] 100000, .int .i64, .int .u16], [], .one, [.row [.int .u8] 5 (.f 34 (.v 3) (.v 0) (listE [(.v 1), (.v 2)])) (.v 0)]⟩
theorem okb : rc.ok = true := by kernel_rfl
noncomputable def us : SMs := fun m n => smR (m.cx (cxOf n)) []
theorem us_ok : SMsOk us := fun m n => smR_ok (rcs_nil _)
def tree : TT (List E) :=
(.br (.b .le .i64 (.v 1) (.c (-16)))
  (.leaf [(.v 0), (.f 16 (.c 0) (.c 0) (.v 3))])
  (.br (.b .le .i64 (.b .pmul .i64 (.c 8) (.v 0)) (.v 1))
  (.leaf [(.v 0), (.f 16 (.c 0) (.c 0) (.v 3))])
  (.loop ⟨1000, [some (0, 4611686018427387904), none], [(.c 0), (.f 16 (.c 0) (.c 0) (.v 3))], 1003⟩
  (.br (.b .lt .i64 (.cl 1000 0 4611686018427387904) (.c 16))
  (.br (.b .eq .i64 (.b .and .u16 (.b .shr .u16 (.v 2) (.w .u64 (.b .psub .i64 (.c 15) (.cl 1000 0 4611686018427387904)))) (.c 1)) (.c 1))
  (.br (.b .le .i64 (.c 0) (.w .i64 (.b .padd .i64 (.v 1) (.cl 1000 0 4611686018427387904))))
  (.br (.b .lt .i64 (.w .i64 (.b .padd .i64 (.v 1) (.cl 1000 0 4611686018427387904))) (.b .pmul .i64 (.c 8) (.v 0)))
  (.br (.b .le .i64 (.c 0) (.b .quo .i64 (.w .i64 (.b .padd .i64 (.v 1) (.cl 1000 0 4611686018427387904))) (.c 8)))
  (.br (.b .lt .i64 (.b .quo .i64 (.w .i64 (.b .padd .i64 (.v 1) (.cl 1000 0 4611686018427387904))) (.c 8)) (.v 0))
  (.br (.b .le .i64 (.b .padd .i64 (.cl 1000 0 4611686018427387904) (.c 1)) (.c 4611686018427387904))
  (.back [(.b .padd .i64 (.cl 1000 0 4611686018427387904) (.c 1)), (.f 14 (.v 1001) (.b .quo .i64 (.w .i64 (.b .padd .i64 (.v 1) (.cl 1000 0 4611686018427387904))) (.c 8)) (.b .xor .u8 (.w .u8 (.f 13 (.v 1001) (.b .quo .i64 (.w .i64 (.b .padd .i64 (.v 1) (.cl 1000 0 4611686018427387904))) (.c 8)) (.c 0))) (.b .shr .u8 (.c 128) (.w .u64 (.b .rem .i64 (.w .i64 (.b .padd .i64 (.v 1) (.cl 1000 0 4611686018427387904))) (.c 8))))))])
  (.bad 303))
  (.bad 200))
  (.bad 200))
  (.br (.b .le .i64 (.b .padd .i64 (.cl 1000 0 4611686018427387904) (.c 1)) (.c 4611686018427387904))
  (.back [(.b .padd .i64 (.cl 1000 0 4611686018427387904) (.c 1)), (.v 1001)])
  (.bad 303)))
  (.br (.b .le .i64 (.b .padd .i64 (.cl 1000 0 4611686018427387904) (.c 1)) (.c 4611686018427387904))
  (.back [(.b .padd .i64 (.cl 1000 0 4611686018427387904) (.c 1)), (.v 1001)])
  (.bad 303)))
  (.br (.b .le .i64 (.b .padd .i64 (.cl 1000 0 4611686018427387904) (.c 1)) (.c 4611686018427387904))
  (.back [(.b .padd .i64 (.cl 1000 0 4611686018427387904) (.c 1)), (.v 1001)])
  (.bad 303)))
  (.exit 0))
  (.leaf [(.v 0), (.v 1001)]))))

def P (n0 p1 p2 c0 r0 : Int) : Prop :=
 (((bool01 (decide (p1 ≤ (-16)))) ≠ 0 →
  (n0 : Int) = n0 ∧ rowEq [.int .u8] (appZ 0 0 c0) (flC c0 n0 (consZ p1 (consZ p2 0))) n0 ∧ True) ∧ ((bool01 (decide (p1 ≤ (-16)))) = 0 →
  (((bool01 (decide ((8 * n0) ≤ p1))) ≠ 0 →
   (n0 : Int) = n0 ∧ rowEq [.int .u8] (appZ 0 0 c0) (flC c0 n0 (consZ p1 (consZ p2 0))) n0 ∧ True) ∧ ((bool01 (decide ((8 * n0) ≤ p1))) = 0 →
   ∃ I1000 : Int → Int → Nat → Prop, (∃ m, I1000 0 (appZ 0 0 c0) m) ∧
   ∀ y1000 y1001 : Int, ∀ m1000, ((0 ≤ y1000 ∧ y1000 ≤ 4611686018427387904) ∧ True ∧ True) → I1000 y1000 y1001 m1000 →
    (((bool01 (decide (y1000 < 16))) ≠ 0 →
     (((bool01 ((band .u16 (shrZ .u16 p2 (IntKind.wrap .u64 (15 - y1000))) 1) == 1)) ≠ 0 →
      (((bool01 (decide (0 ≤ (IntKind.wrap .i64 (p1 + y1000))))) ≠ 0 →
       (((bool01 (decide ((IntKind.wrap .i64 (p1 + y1000)) < (8 * n0)))) ≠ 0 →
        (((bool01 (decide (0 ≤ (BO.ev .quo .i64 (IntKind.wrap .i64 (p1 + y1000)) 8)))) ≠ 0 →
         (((bool01 (decide ((BO.ev .quo .i64 (IntKind.wrap .i64 (p1 + y1000)) 8) < n0))) ≠ 0 →
          (((bool01 (decide ((y1000 + 1) ≤ 4611686018427387904))) ≠ 0 →
           ∃ m', m' < m1000 ∧ I1000 (y1000 + 1) (updZ y1001 (BO.ev .quo .i64 (IntKind.wrap .i64 (p1 + y1000)) 8) (bxor .u8 (IntKind.wrap .u8 (rdZ y1001 (BO.ev .quo .i64 (IntKind.wrap .i64 (p1 + y1000)) 8))) (shrZ .u8 128 (IntKind.wrap .u64 (BO.ev .rem .i64 (IntKind.wrap .i64 (p1 + y1000)) 8))))) m') ∧ ((bool01 (decide ((y1000 + 1) ≤ 4611686018427387904))) = 0 →
           False))) ∧ ((bool01 (decide ((BO.ev .quo .i64 (IntKind.wrap .i64 (p1 + y1000)) 8) < n0))) = 0 →
          False))) ∧ ((bool01 (decide (0 ≤ (BO.ev .quo .i64 (IntKind.wrap .i64 (p1 + y1000)) 8)))) = 0 →
         False))) ∧ ((bool01 (decide ((IntKind.wrap .i64 (p1 + y1000)) < (8 * n0)))) = 0 →
        (((bool01 (decide ((y1000 + 1) ≤ 4611686018427387904))) ≠ 0 →
         ∃ m', m' < m1000 ∧ I1000 (y1000 + 1) y1001 m') ∧ ((bool01 (decide ((y1000 + 1) ≤ 4611686018427387904))) = 0 →
         False))))) ∧ ((bool01 (decide (0 ≤ (IntKind.wrap .i64 (p1 + y1000))))) = 0 →
       (((bool01 (decide ((y1000 + 1) ≤ 4611686018427387904))) ≠ 0 →
        ∃ m', m' < m1000 ∧ I1000 (y1000 + 1) y1001 m') ∧ ((bool01 (decide ((y1000 + 1) ≤ 4611686018427387904))) = 0 →
        False))))) ∧ ((bool01 ((band .u16 (shrZ .u16 p2 (IntKind.wrap .u64 (15 - y1000))) 1) == 1)) = 0 →
      (((bool01 (decide ((y1000 + 1) ≤ 4611686018427387904))) ≠ 0 →
       ∃ m', m' < m1000 ∧ I1000 (y1000 + 1) y1001 m') ∧ ((bool01 (decide ((y1000 + 1) ≤ 4611686018427387904))) = 0 →
       False))))) ∧ ((bool01 (decide (y1000 < 16))) = 0 →
     (n0 : Int) = n0 ∧ rowEq [.int .u8] y1001 (flC c0 n0 (consZ p1 (consZ p2 0))) n0 ∧ True))))))

theorem holds (n0 p1 p2 c0 r0 : Int) (l_n0 : 0 ≤ n0) (u_n0 : n0 ≤ 100000) (l_p1 : -9223372036854775808 ≤ p1) (u_p1 : p1 ≤ 9223372036854775807) (l_p2 : 0 ≤ p2) (u_p2 : p2 ≤ 65535) (h_n0 : n0 ≤ r0) : P n0 p1 p2 c0 r0 := by
  unfold P
  simp only [b01_eq, decide_eq_true_eq, decide_eq_false_iff_not, beq_iff_eq, beq_eq_false_iff_ne, bne_iff_ne, bne_eq_false_iff_eq, Int.not_le, Int.not_lt, true_and, and_true, iteZ_ne, ne_eq, Bool.not_eq_false, Bool.not_eq_true, not_true_eq_false, not_false_eq_true, Decidable.not_not, forall_const, false_implies, true_iff, iff_true, false_iff, iff_false, Int.reduceEq, Int.reduceNeg, eq_self, if_true, if_false, reduceIte, flC_eq]
  have h0 : RwK .u8 (appZ 0 0 c0) (bytZ c0 n0) := bytes_rw _ _ _ fun i _ => app0 _ _
  have hl := flF_len c0 n0 p1 p2
  have hout : (∀ k, k < 16 → ¬ flOn n0 p1 p2 k) → rowEq [.int .u8] (appZ 0 0 c0) (LZ (flF c0 n0 p1 p2 16)) n0 := fun h => by
    rw [flF_off h]; exact h0.eq (by rw [bytes_len]; omega)
  refine ⟨fun h => hout fun k hk ho => by have := ho.2; omega, fun h1 => ⟨fun h => hout fun k hk ho => by have := ho.2; omega, fun h2 => ?_⟩⟩
  refine ⟨fun i q m => RwK .u8 q (flF c0 n0 p1 p2 i.toNat) ∧ i ≤ 16 ∧ m = (16 - i).toNat, ⟨_, h0, by omega, rfl⟩, fun i q m hb hI => ?_⟩
  obtain ⟨hq, hi, rfl⟩ := hI
  refine ⟨fun h3 => ?_, fun h3 => by rw [show 16 = i.toNat by omega]; exact hq.eq (by rw [hl]; omega)⟩
  rw [w64 (x := p1 + i) (by omega) (by omega), bit16 l_p2 u_p2 hb.1 (by omega)]
  have hs : (i + 1).toNat = i.toNat + 1 := by omega
  have hc : ((i.toNat : Nat) : Int) = i := by omega
  have hno : ¬ flOn n0 p1 p2 i.toNat → ∃ m', m' < (16 - i).toNat ∧ RwK .u8 q (flF c0 n0 p1 p2 (i + 1).toNat) ∧ i + 1 ≤ 16 ∧ m' = (16 - (i + 1)).toNat := fun ho => by
    refine ⟨_, ?_, ?_, by omega, rfl⟩
    · omega
    · rw [hs, flF, if_neg ho]; exact hq
  refine ⟨fun h4 => ⟨fun h5 => ⟨fun h6 => ?_, fun h6 => ⟨fun _ => hno fun ho => by have := ho.2; omega, fun _ => by omega⟩⟩, fun h5 => ⟨fun _ => hno fun ho => by have := ho.2; omega, fun _ => by omega⟩⟩, fun h4 => ⟨fun _ => hno fun ho => h4 ho.1, fun _ => by omega⟩⟩
  rw [quo_pos h5 (by omega) (by omega), rem_pos h5]
  refine ⟨fun h7 => ⟨fun h8 => ⟨fun _ => ⟨_, ?_, ?_, by omega, rfl⟩, fun _ => by omega⟩, fun _ => by omega⟩, fun _ => by omega⟩
  · omega
  · have ho : flOn n0 p1 p2 i.toNat := ⟨h4, by omega, by omega⟩
    have hb8 := u8_bd (rdZ q ((p1 + i) / 8))
    have hf := flip_one (r := (p1 + i) % 8) hb8.1 hb8.2 (by omega) (by omega)
    have hw : IntKind.wrap .u64 ((p1 + i) % 8) = (p1 + i) % 8 := wrap_in .u64 _ (by show (0 : Int) ≤ _; omega) (by show _ ≤ (18446744073709551615 : Int); omega)
    rw [hs, flF, if_pos ho, hc, hw, hf.1, hq.rd h7 (by rw [hl]; omega)]
    rw [hq.rd h7 (by rw [hl]; omega)] at hf
    exact hq.set h7 (w8 hf.2.1 hf.2.2)

theorem plain (i : Nat → Int) (v : Nat → Value) (ro : Nat → RO) (p : Program) : TT.hdP (rc.cx (cxOf 2)) (rlF ⟨i, fN, v, ro, p⟩ rc.res) tree ⟨i, fN, v, ro, p⟩ = P (i 0) (i 1) (i 2) (i 3) (i 4) := by kernel_rfl
theorem ran : TT.beq (projL (rc.pj (cxOf 2)) (runT us (fun _ _ => .auto) rc 2 rc.f rc.args ⟨[], []⟩)) tree = true := by kernel_rfl
theorem fineT : (TT.fine (rc.cx (cxOf 2)) 1000 [] tree && (rc.cx (cxOf 2)).okB 1000 && SV.vbL 1000 rc.args && TT.tidy (rc.cx (cxOf 2)) [] tree) = true := by kernel_rfl
theorem ok : RcOk (cxOf 2) rc :=
  rc_run (runT_ok us_ok (fun _ _ => .auto) rc 2) ran fineT okb fun ρ hρ hcap hpre => by
    obtain ⟨i, f, v, ro, p⟩ := ρ
    have hf : f = fN := hρ.hF
    subst hf
    rw [plain]
    exact holds (i 0) (i 1) (i 2) (i 3) (i 4) (hρ.hi 0 _ rfl).1 (hρ.hi 0 _ rfl).2 (hρ.hi 1 _ rfl).1 (hρ.hi 1 _ rfl).2 (hρ.hi 2 _ rfl).1 (hρ.hi 2 _ rfl).2 (hcap _ (List.mem_of_getElem? (i := 0) rfl))
end Go.Proofs.Ytlepjbacaffddaa.CFlip
