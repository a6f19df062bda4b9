/-
  What astrolaberef17.Folds answers, as numbers of what it is handed: its run by the engine, and the plain statement behind it. No condition.
-/
import Derived.Test.YtlepjbacaffddaaGab
import Derived.Test.YtlepjbacaffddaaGmT
namespace Go.Proofs.Ytlepjbacaffddaa.CRTFolds
open Go.Eng Go.RowKit
set_option linter.unusedVariables false
set_option linter.unusedSimpArgs false
set_option maxRecDepth 100000
def rc : Rc := ⟨28, [none], [.row [.int .i64, .int .i64, .int .i64] 1000000], [], .one, [.row [.int .i64] 3 (.f 39 (.v 1) (.v 0) (.c 0)) (.f 38 (.v 1) (.v 0) (.c 0))]⟩
theorem okb : rc.ok = true := by kernel_rfl
noncomputable def us : SMs := fun m n => smR (m.cx (cxOf n)) []
theorem us_ok : SMsOk us := fun m n => smR_ok (rcs_nil _)
def tree : TT (List E) :=
(.loop ⟨1000, [none, some (0, 1000000), some (1, 4611686018427387904)], [(.c 0), (.c 0), (.c 1)], 1006⟩
  (.br (.b .lt .i64 (.cl 1002 1 4611686018427387904) (.v 0))
  (.new 1004 (.w .i64 (.f 13 (.f 13 (.v 1) (.cl 1002 1 4611686018427387904) (.c 0)) (.c 0) (.c 0)))
  (.br (.b .lt .i64 (.b .psub .i64 (.cl 1002 1 4611686018427387904) (.c 1)) (.v 0))
  (.new 1005 (.w .i64 (.f 13 (.f 13 (.v 1) (.b .psub .i64 (.cl 1002 1 4611686018427387904) (.c 1)) (.c 0)) (.c 0) (.c 0)))
  (.br (.b .ne .i64 (.w .i64 (.b .psub .i64 (.cl 1004 (-9223372036854775808) 9223372036854775807) (.cl 1005 (-9223372036854775808) 9223372036854775807))) (.c 1))
  (.br (.b .le .i64 (.b .padd .i64 (.cl 1001 0 1000000) (.c 1)) (.c 1000000))
  (.br (.b .le .i64 (.b .padd .i64 (.cl 1001 0 1000000) (.c 1)) (.c 1000000))
  (.br (.b .le .i64 (.b .padd .i64 (.cl 1002 1 4611686018427387904) (.c 1)) (.c 4611686018427387904))
  (.back [(.f 14 (.v 1000) (.cl 1001 0 1000000) (.cl 1002 1 4611686018427387904)), (.b .padd .i64 (.cl 1001 0 1000000) (.c 1)), (.b .padd .i64 (.cl 1002 1 4611686018427387904) (.c 1))])
  (.bad 303))
  (.bad 303))
  (.bad 200))
  (.br (.b .le .i64 (.b .padd .i64 (.cl 1002 1 4611686018427387904) (.c 1)) (.c 4611686018427387904))
  (.back [(.v 1000), (.cl 1001 0 1000000), (.b .padd .i64 (.cl 1002 1 4611686018427387904) (.c 1))])
  (.bad 303))))
  (.bad 200)))
  (.exit 0))
  (.leaf [(.cl 1001 0 1000000), (.v 1000)]))

def P (n0 c0 r0 : Int) : Prop :=
 ∃ I1000 : Int → Int → Int → Nat → Prop, (∃ m, I1000 0 0 1 m) ∧
 ∀ y1000 y1001 y1002 : Int, ∀ m1000, (True ∧ (0 ≤ y1001 ∧ y1001 ≤ 1000000) ∧ (1 ≤ y1002 ∧ y1002 ≤ 4611686018427387904) ∧ True) → I1000 y1000 y1001 y1002 m1000 →
  (((bool01 (decide (y1002 < n0))) ≠ 0 →
   ∀ y1004 : Int, y1004 = (IntKind.wrap .i64 (rdZ (rdZ c0 y1002) 0)) → ((-9223372036854775808) ≤ y1004 ∧ y1004 ≤ 9223372036854775807) →
   (((bool01 (decide ((y1002 - 1) < n0))) ≠ 0 →
    ∀ y1005 : Int, y1005 = (IntKind.wrap .i64 (rdZ (rdZ c0 (y1002 - 1)) 0)) → ((-9223372036854775808) ≤ y1005 ∧ y1005 ≤ 9223372036854775807) →
    (((bool01 ((IntKind.wrap .i64 (y1004 - y1005)) != 1)) ≠ 0 →
     (((bool01 (decide ((y1001 + 1) ≤ 1000000))) ≠ 0 →
      (((bool01 (decide ((y1001 + 1) ≤ 1000000))) ≠ 0 →
       (((bool01 (decide ((y1002 + 1) ≤ 4611686018427387904))) ≠ 0 →
        ∃ m', m' < m1000 ∧ I1000 (updZ y1000 y1001 y1002) (y1001 + 1) (y1002 + 1) m') ∧ ((bool01 (decide ((y1002 + 1) ≤ 4611686018427387904))) = 0 →
        False))) ∧ ((bool01 (decide ((y1001 + 1) ≤ 1000000))) = 0 →
       False))) ∧ ((bool01 (decide ((y1001 + 1) ≤ 1000000))) = 0 →
      False))) ∧ ((bool01 ((IntKind.wrap .i64 (y1004 - y1005)) != 1)) = 0 →
     (((bool01 (decide ((y1002 + 1) ≤ 4611686018427387904))) ≠ 0 →
      ∃ m', m' < m1000 ∧ I1000 y1000 y1001 (y1002 + 1) m') ∧ ((bool01 (decide ((y1002 + 1) ≤ 4611686018427387904))) = 0 →
      False))))) ∧ ((bool01 (decide ((y1002 - 1) < n0))) = 0 →
    False))) ∧ ((bool01 (decide (y1002 < n0))) = 0 →
   (y1001 : Int) = (foldN c0 n0) ∧ rowEq [.int .i64] y1000 (foldC c0 n0) y1001 ∧ True))

theorem holds (n0 c0 r0 : Int) (l_n0 : 0 ≤ n0) (u_n0 : n0 ≤ 1000000) (h_n0 : n0 ≤ r0) : P n0 c0 r0 := by
  unfold P
  simp only [b01_eq, decide_eq_true_eq, decide_eq_false_iff_not, beq_iff_eq, beq_eq_false_iff_ne, bne_iff_ne, bne_eq_false_iff_eq, Int.not_le, Int.not_lt, true_and, and_true, iteZ_ne, ne_eq, Bool.not_eq_false, Bool.not_eq_true, not_true_eq_false, not_false_eq_true, Decidable.not_not, forall_const, false_implies, true_iff, iff_true, false_iff, iff_false, Int.reduceEq, Int.reduceNeg, eq_self, if_true, if_false, reduceIte, ob_le, ob_lt, ob_p, ob_n, mk_fold]
  refine ⟨fun q n i m => Rw q (foldF c0 (i.toNat - 1)) ∧ n = (foldF c0 (i.toNat - 1)).length ∧ (i ≤ n0 ∨ i = 1) ∧ m = (n0 - i).toNat, ⟨_, Rw.nil _, by simp [foldF], by omega, rfl⟩, fun q n i m hb hI => ?_⟩
  obtain ⟨hq, hn, hi, rfl⟩ := hI
  have hl := foldF_len c0 (i.toNat - 1)
  have hs : (i + 1).toNat - 1 = (i.toNat - 1) + 1 := by omega
  have e1 : (((i.toNat - 1 : Nat) : Int)) = i - 1 := by omega
  have e2 : (((i.toNat - 1 + 1 : Nat) : Int)) = i := by omega
  refine ⟨fun h1 y4 e4 _ => ⟨by omega, fun y5 e5 _ => ⟨fun h2 => ⟨by omega, by omega, by omega, _, ?_, ?_, ?_, by omega, rfl⟩, fun h2 => ⟨by omega, _, ?_, ?_, ?_, by omega, rfl⟩⟩⟩, fun h1 => ?_⟩
  · omega
  · subst e4; subst e5
    rw [hs, foldF, e1, show i - 1 + 1 = i by omega, if_neg h2, e2]
    exact hq.snoc hn
  · subst e4; subst e5
    rw [hs, foldF, e1, show i - 1 + 1 = i by omega, if_neg h2]
    simp; omega
  · omega
  · subst e4; subst e5
    rw [hs, foldF, e1, show i - 1 + 1 = i by omega, if_pos h2, List.append_nil]; exact hq
  · subst e4; subst e5
    rw [hs, foldF, e1, show i - 1 + 1 = i by omega, if_pos h2, List.append_nil]; exact hn
  · have e : i.toNat - 1 = n0.toNat - 1 := by omega
    unfold foldN foldC
    rw [← e]
    exact ⟨hn, hq.eq (by omega)⟩

theorem plain (i : Nat → Int) (v : Nat → Value) (ro : Nat → RO) (p : Program) : TT.hdP (rc.cx (cxOf 2)) (rlF ⟨i, fN, v, ro, p⟩ rc.res) tree ⟨i, fN, v, ro, p⟩ = P (i 0) (i 1) (i 2) := by kernel_rfl
theorem ran : TT.beq (projL (rc.pj (cxOf 2)) (runT us (fun _ _ => .auto) rc 2 rc.f rc.args ⟨[], []⟩)) tree = true := by kernel_rfl
theorem fineT : (TT.fine (rc.cx (cxOf 2)) 1000 [] tree && (rc.cx (cxOf 2)).okB 1000 && SV.vbL 1000 rc.args && TT.tidy (rc.cx (cxOf 2)) [] tree) = true := by kernel_rfl
theorem ok : RcOk (cxOf 2) rc :=
  rc_run (runT_ok us_ok (fun _ _ => .auto) rc 2) ran fineT okb fun ρ hρ hcap hpre => by
    obtain ⟨i, f, v, ro, p⟩ := ρ
    have hf : f = fN := hρ.hF
    subst hf
    rw [plain]
    exact holds (i 0) (i 1) (i 2) (hρ.hi 0 _ rfl).1 (hρ.hi 0 _ rfl).2 (hcap _ (List.mem_of_getElem? (i := 0) rfl))
end Go.Proofs.Ytlepjbacaffddaa.CRTFolds
