/-
  What trace.Addrs answers, as numbers of what it is handed: its run by the engine, and the plain statement behind it. No condition.
-/
import Derived.Test.YtlepjbacaffddaaGab
import Derived.Test.YtlepjbacaffddaaGib
import Derived.Test.YtlepjbacaffddaaGmT
namespace Go.Proofs.Ytlepjbacaffddaa.CTAddrs
open Go.Eng Go.RowKit
set_option linter.unusedVariables false
set_option linter.unusedSimpArgs false
set_option maxRecDepth 100000
def rc : Rc := ⟨25, [none], [.row [.int .i64, .int .i64, .int .i64] 900000], [], .one, [.row [.int .i64] 3 (.f 41 (.v 1) (.v 0) (.c 0)) (.f 40 (.v 1) (.v 0) (.c 0))]⟩
theorem okb : rc.ok = true := by kernel_rfl
noncomputable def us : SMs := fun m n => smAnd 37 (libSort m n) (smAnd 38 (libComp m n) (smR (m.cx (cxOf n)) []))
theorem us_ok : SMsOk us := fun m n => smAnd_ok (libSort_ok m n) (smAnd_ok (libComp_ok m n) (smR_ok (rcs_nil _)))
def tree : TT (List E) :=
(.loop ⟨1000, [none, some (0, 1000000), some (0, 4611686018427387904)], [(.c 0), (.c 0), (.c 0)], 1004⟩
  (.br (.b .lt .i64 (.cl 1002 0 4611686018427387904) (.v 0))
  (.br (.b .ne .i64 (.w .i64 (.f 13 (.f 13 (.v 1) (.cl 1002 0 4611686018427387904) (.c 0)) (.c 1) (.c 0))) (.c (-1)))
  (.br (.b .le .i64 (.b .padd .i64 (.cl 1001 0 1000000) (.c 1)) (.c 1000000))
  (.br (.b .le .i64 (.b .padd .i64 (.cl 1001 0 1000000) (.c 1)) (.c 1000000))
  (.br (.b .le .i64 (.b .padd .i64 (.cl 1002 0 4611686018427387904) (.c 1)) (.c 4611686018427387904))
  (.back [(.f 14 (.v 1000) (.cl 1001 0 1000000) (.w .i64 (.f 13 (.f 13 (.v 1) (.cl 1002 0 4611686018427387904) (.c 0)) (.c 1) (.c 0)))), (.b .padd .i64 (.cl 1001 0 1000000) (.c 1)), (.b .padd .i64 (.cl 1002 0 4611686018427387904) (.c 1))])
  (.bad 303))
  (.bad 303))
  (.bad 200))
  (.br (.b .le .i64 (.b .padd .i64 (.cl 1002 0 4611686018427387904) (.c 1)) (.c 4611686018427387904))
  (.back [(.v 1000), (.cl 1001 0 1000000), (.b .padd .i64 (.cl 1002 0 4611686018427387904) (.c 1))])
  (.bad 303)))
  (.exit 0))
  (.leaf [(.f 44 (.f 42 (.v 1000) (.cl 1001 0 1000000) (.c 0)) (.cl 1001 0 1000000) (.c 0)), (.f 43 (.f 42 (.v 1000) (.cl 1001 0 1000000) (.c 0)) (.cl 1001 0 1000000) (.c 0))]))

def P (n0 c0 r0 : Int) : Prop :=
 ∃ I1000 : Int → Int → Int → Nat → Prop, (∃ m, I1000 0 0 0 m) ∧
 ∀ y1000 y1001 y1002 : Int, ∀ m1000, (True ∧ (0 ≤ y1001 ∧ y1001 ≤ 1000000) ∧ (0 ≤ y1002 ∧ y1002 ≤ 4611686018427387904) ∧ True) → I1000 y1000 y1001 y1002 m1000 →
  (((bool01 (decide (y1002 < n0))) ≠ 0 →
   (((bool01 ((IntKind.wrap .i64 (rdZ (rdZ c0 y1002) 1)) != (-1))) ≠ 0 →
    (((bool01 (decide ((y1001 + 1) ≤ 1000000))) ≠ 0 →
     (((bool01 (decide ((y1001 + 1) ≤ 1000000))) ≠ 0 →
      (((bool01 (decide ((y1002 + 1) ≤ 4611686018427387904))) ≠ 0 →
       ∃ m', m' < m1000 ∧ I1000 (updZ y1000 y1001 (IntKind.wrap .i64 (rdZ (rdZ c0 y1002) 1))) (y1001 + 1) (y1002 + 1) m') ∧ ((bool01 (decide ((y1002 + 1) ≤ 4611686018427387904))) = 0 →
       False))) ∧ ((bool01 (decide ((y1001 + 1) ≤ 1000000))) = 0 →
      False))) ∧ ((bool01 (decide ((y1001 + 1) ≤ 1000000))) = 0 →
     False))) ∧ ((bool01 ((IntKind.wrap .i64 (rdZ (rdZ c0 y1002) 1)) != (-1))) = 0 →
    (((bool01 (decide ((y1002 + 1) ≤ 4611686018427387904))) ≠ 0 →
     ∃ m', m' < m1000 ∧ I1000 y1000 y1001 (y1002 + 1) m') ∧ ((bool01 (decide ((y1002 + 1) ≤ 4611686018427387904))) = 0 →
     False))))) ∧ ((bool01 (decide (y1002 < n0))) = 0 →
   ((compN (sortC y1000 y1001) y1001) : Int) = (addrN c0 n0) ∧ rowEq [.int .i64] (compC (sortC y1000 y1001) y1001) (addrC c0 n0) (compN (sortC y1000 y1001) y1001) ∧ True))

theorem holds (n0 c0 r0 : Int) (l_n0 : 0 ≤ n0) (u_n0 : n0 ≤ 900000) (h_n0 : n0 ≤ r0) : P n0 c0 r0 := by
  unfold P
  simp only [b01_eq, decide_eq_true_eq, decide_eq_false_iff_not, beq_iff_eq, beq_eq_false_iff_ne, bne_iff_ne, bne_eq_false_iff_eq, Int.not_le, Int.not_lt, true_and, and_true, iteZ_ne, ne_eq, Bool.not_eq_false, Bool.not_eq_true, not_true_eq_false, not_false_eq_true, Decidable.not_not, forall_const, false_implies, true_iff, iff_true, false_iff, iff_false, Int.reduceEq, Int.reduceNeg, eq_self, if_true, if_false, reduceIte, ob_le, ob_lt, ob_p, ob_n]
  simp only [mk_fold]
  refine ⟨fun q n i m => Rw q (addrF c0 i.toNat) ∧ n = (addrF c0 i.toNat).length ∧ i ≤ n0 ∧ m = (n0 - i).toNat, ⟨_, Rw.nil _, by simp [addrF], by omega, rfl⟩, fun q n i m hb hI => ?_⟩
  obtain ⟨hq, hn, hi, rfl⟩ := hI
  have hl := addrF_len c0 i.toNat
  have hs := succ_i hb.2.1
  have hi0 := nat_i hb.2.1
  refine ⟨fun h1 => ⟨fun h2 => ⟨by omega, by omega, by omega, _, ?_, ?_, ?_, by omega, rfl⟩, fun h2 => ⟨by omega, _, ?_, ?_, ?_, by omega, rfl⟩⟩, fun h1 => ?_⟩
  · omega
  · rw [hs, addrF, hi0, if_neg h2]; exact hq.snoc hn
  · rw [hs, addrF, hi0, if_neg h2]; simp; omega
  · omega
  · rw [hs, addrF, hi0, if_pos h2, List.append_nil]; exact hq
  · rw [hs, addrF, hi0, if_pos h2, List.append_nil]; exact hn
  · have e : i = n0 := by omega
    subst e
    exact addr_prog hq hn

theorem plain (i : Nat → Int) (v : Nat → Value) (ro : Nat → RO) (p : Program) : TT.hdP (rc.cx (cxOf 2)) (rlF ⟨i, fN, v, ro, p⟩ rc.res) tree ⟨i, fN, v, ro, p⟩ = P (i 0) (i 1) (i 2) := by kernel_rfl
theorem ran : TT.beq (projL (rc.pj (cxOf 2)) (runT us (fun _ _ => .auto) rc 2 rc.f rc.args ⟨[], []⟩)) tree = true := by kernel_rfl
theorem fineT : (TT.fine (rc.cx (cxOf 2)) 1000 [] tree && (rc.cx (cxOf 2)).okB 1000 && SV.vbL 1000 rc.args && TT.tidy (rc.cx (cxOf 2)) [] tree) = true := by kernel_rfl
theorem ok : RcOk (cxOf 2) rc :=
  rc_run (runT_ok us_ok (fun _ _ => .auto) rc 2) ran fineT okb fun ρ hρ hcap hpre => by
    obtain ⟨i, f, v, ro, p⟩ := ρ
    have hf : f = fN := hρ.hF
    subst hf
    rw [plain]
    exact holds (i 0) (i 1) (i 2) (hρ.hi 0 _ rfl).1 (hρ.hi 0 _ rfl).2 (hcap _ (List.mem_of_getElem? (i := 0) rfl))
end Go.Proofs.Ytlepjbacaffddaa.CTAddrs
