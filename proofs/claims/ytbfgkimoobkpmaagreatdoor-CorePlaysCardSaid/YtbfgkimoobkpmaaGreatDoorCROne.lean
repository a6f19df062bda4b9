/-
  What astrolaberef07.one answers, as numbers of what it is handed: its run by the engine, and the plain statement behind it. No condition.
-/
import Derived.Test.YtbfgkimoobkpmaaGreatDoorGab
import Derived.Test.YtbfgkimoobkpmaaGreatDoorCRLow
import Derived.Test.YtbfgkimoobkpmaaGreatDoorCRSar
import Derived.Test.YtbfgkimoobkpmaaGreatDoorCRClz
import Derived.Test.YtbfgkimoobkpmaaGreatDoorGmD
namespace Go.Proofs.YtbfgkimoobkpmaaGreatDoor.CROne
open Go.Eng Go.RowKit
set_option linter.unusedVariables false
set_option linter.unusedSimpArgs false
set_option maxRecDepth 100000
def rc : Rc := ⟨55, [none, none], [.int .i64, .int .i32], [], .one, [.int .i32 (.f 63 (.ite (.b .eq .i64 (.v 0) (.c 24)) (.c 24) (.ite (.b .eq .i64 (.v 0) (.c 25)) (.c 25) (.ite (.b .eq .i64 (.v 0) (.c 26)) (.c 26) (.ite (.b .eq .i64 (.v 0) (.c 27)) (.c 27) (.ite (.b .eq .i64 (.v 0) (.c 28)) (.c 28) (.ite (.b .eq .i64 (.v 0) (.c 29)) (.c 29) (.c 30))))))) (.v 1) (.c 0))]⟩
theorem okb : rc.ok = true := by kernel_rfl
noncomputable def us : SMs := fun Γ ins n => smH (cxG n Γ ins) [] (smR (cxG n Γ ins) [CRLow.rc, CRSar.rc, CRClz.rc])
theorem us_ok : SMsOk us := fun Γ ins n => smH_ok (tabsG n Γ ins) (rhs_nil _) (smR_ok (tabsG n Γ ins) (rcs_cons CRLow.okb (rc_n CRLow.ok) (rcs_cons CRSar.okb (rc_n CRSar.ok) (rcs_cons CRClz.okb (rc_n CRClz.ok) (rcs_nil _)))))
def q0 : E := (.b .psub .i64 (.c 0) (.v 1))
def q1 : E := (tk (.c 2147483647) q0)
def q2 : E := (t3 q0)
def q3 : E := (.b .rem .i64 (.v 1) (.c 65536))
def q4 : E := (tp q3 (.c 65536))
def tree : TT (List E) :=
 (.br (te (.v 0) (.c 24)) (.leaf [(.f 63 (.c 24) (.v 1) (.c 0))]) (.br (te (.v 0) (.c 25)) (.br q1 (.leaf [(.c 2147483647)]) (.leaf [q2])) (.br (te (.v 0) (.c 26)) (.br (tk (.v 1) (.c 0)) (.br q1 (.leaf [(.c 2147483647)]) (.leaf [q2])) (.leaf [(.v 1)])) (.br (te (.v 0) (.c 27)) (.br (tn (.v 1) (.c 0)) (.leaf [(.c (-1))]) (.leaf [(.c 0)])) (.br (te (.v 0) (.c 28)) (.br (tk (.v 1) (.c 0)) (.leaf [(.c (-1))]) (.leaf [(.c 0)])) (.br (te (.v 0) (.c 29)) (.br (tk q3 (.c 0)) (.br (tl (.c 32768) q4) (.leaf [(.b .psub .i64 q4 (.c 65536))]) (.leaf [q4])) (.br (tl (.c 32768) q3) (.leaf [(.b .psub .i64 q3 (.c 65536))]) (.leaf [q3]))) (.leaf [(.f 63 (.c 11) (.v 1) (.c 16))])))))))

def sL0 (a b z0 : Int) : Prop := (z0 : Int) = (aluV (iteZ (Pe a 24) 24 (iteZ (Pe a 25) 25 (iteZ (Pe a 26) 26 (iteZ (Pe a 27) 27 (iteZ (Pe a 28) 28 (iteZ (Pe a 29) 29 30)))))) b 0) ∧ True
def P (a b : Int) : Prop :=
 (Pb (Pe a 24) (sL0 a b (aluV 24 b 0)) (Pb (Pe a 25) (Pb (Pl 2147483647 (0 - b)) (sL0 a b 2147483647) (sL0 a b (W3 (0 - b)))) (Pb (Pe a 26) (Pb (Pl b 0) (Pb (Pl 2147483647 (0 - b)) (sL0 a b 2147483647) (sL0 a b (W3 (0 - b)))) (sL0 a b b)) (Pb (Pe a 27) (Pb (Pd b 0) (sL0 a b (-1)) (sL0 a b 0)) (Pb (Pe a 28) (Pb (Pl b 0) (sL0 a b (-1)) (sL0 a b 0)) (Pb (Pe a 29) (Pb (Pl (BO.ev .rem .i64 b 65536) 0) (Pb (PL 32768 ((BO.ev .rem .i64 b 65536) + 65536)) (sL0 a b (((BO.ev .rem .i64 b 65536) + 65536) - 65536)) (sL0 a b ((BO.ev .rem .i64 b 65536) + 65536))) (Pb (PL 32768 (BO.ev .rem .i64 b 65536)) (sL0 a b ((BO.ev .rem .i64 b 65536) - 65536)) (sL0 a b (BO.ev .rem .i64 b 65536)))) (sL0 a b (aluV 11 b 16))))))))

theorem satD (m : Int) : BO.ev .min .i64 (BO.ev .max .i64 m (-2147483648)) 2147483647 = if m < -2147483648 then -2147483648 else if 2147483647 < m then 2147483647 else m := by
  simp only [BO.ev]
  repeat' split
  all_goals omega
theorem wi16D (x : Int) : IntKind.wrap .i16 x = (x + 32768) % 65536 - 32768 := by
  simp [IntKind.wrap, IntKind.bits, IntKind.signed] <;> (try split) <;> omega
theorem tmD (x : Int) : BO.ev .rem .i64 x 65536 = if 0 ≤ x then x % 65536 else -((-x) % 65536) := by
  show x.tmod 65536 = _
  split
  · exact Int.tmod_eq_emod_of_nonneg (by assumption)
  · rename_i h
    rw [← Int.neg_neg x, Int.neg_tmod, Int.tmod_eq_emod_of_nonneg (by omega), Int.neg_neg]
theorem tmE (x : Int) : BO.ev .rem .i64 x 4294967296 = if 0 ≤ x then x % 4294967296 else -((-x) % 4294967296) := by
  show x.tmod 4294967296 = _
  split
  · exact Int.tmod_eq_emod_of_nonneg (by assumption)
  · rename_i h
    rw [← Int.neg_neg x, Int.neg_tmod, Int.tmod_eq_emod_of_nonneg (by omega), Int.neg_neg]
theorem tdE {x : Int} (h1 : -9223372036854775808 ≤ x) (h2 : x ≤ 9223372036854775807) : BO.ev .quo .i64 x 4294967296 = if 0 ≤ x then x / 4294967296 else -((-x) / 4294967296) := by
  show IntKind.wrap .i64 (x.tdiv 4294967296) = _
  have e : x.tdiv 4294967296 = if 0 ≤ x then x / 4294967296 else -((-x) / 4294967296) := by
    split
    · exact Int.tdiv_eq_ediv_of_nonneg (by assumption)
    · rename_i h
      rw [← Int.neg_neg x, Int.neg_tdiv, Int.tdiv_eq_ediv_of_nonneg (by omega), Int.neg_neg]
  rw [e, w64 (by split <;> omega) (by split <;> omega)]
section
variable {a b : Int}
theorem ax1 : aluX 1 a b = IntKind.wrap .i32 (a + b) := rfl
theorem ax2 : aluX 2 a b = IntKind.wrap .i32 (a - b) := rfl
theorem ax3 : aluX 3 a b = if a + b < -2147483648 then -2147483648 else if 2147483647 < a + b then 2147483647 else a + b := by rw [← satD]; rfl
theorem ax4 : aluX 4 a b = if a - b < -2147483648 then -2147483648 else if 2147483647 < a - b then 2147483647 else a - b := by rw [← satD]; rfl
theorem ax13 : aluX 13 a b = if a < b then 1 else 0 := rfl
theorem ax14 : aluX 14 a b = if IntKind.wrap .u32 a < IntKind.wrap .u32 b then 1 else 0 := rfl
theorem ax15 : aluX 15 a b = if a = b then 1 else 0 := rfl
theorem ax16 : aluX 16 a b = if b < a then b else a := rfl
theorem ax17 : aluX 17 a b = if b > a then b else a := rfl
theorem ax18 : aluX 18 a b = IntKind.wrap .i32 (a * b) := rfl
theorem ax19 : aluX 19 a b = a * b / 4294967296 := shr_ev .i64 (a * b) 32
theorem ax22 : aluX 22 a b = IntKind.wrap .i32 (IntKind.wrap .i64 (a.tdiv b)) := rfl
theorem ax23 : aluX 23 a b = IntKind.wrap .i32 (a - IntKind.wrap .i64 (IntKind.wrap .i64 (a.tdiv b) * b)) := rfl
theorem ax25 : aluX 25 a b = if 2147483647 < 0 - a then 2147483647 else 0 - a := rfl
theorem ax26 : aluX 26 a b = if (if 2147483647 < 0 - a then 2147483647 else 0 - a) > a then (if 2147483647 < 0 - a then 2147483647 else 0 - a) else a := rfl
theorem ax27 : aluX 27 a b = if a = 0 then 0 else -1 := rfl
theorem ax28 : aluX 28 a b = a / 2147483648 := shr_ev .i32 a 31
theorem ax29 : aluX 29 a b = (a + 32768) % 65536 - 32768 := wi16D a
theorem ax30 : aluX 30 a b = aluX 11 a 16 := by
  show BO.ev .shr .i32 a 16 = BO.ev .shr .i32 a (BO.ev .and .i32 16 31)
  rw [and31]; rfl
end
theorem holds (p0 p1 : Int) (l_p0 : -9223372036854775808 ≤ p0) (u_p0 : p0 ≤ 9223372036854775807) (l_p1 : -2147483648 ≤ p1) (u_p1 : p1 ≤ 2147483647) : P p0 p1 := by
  delta P sL0 Pb PL Pl Pe Pd W3
  have hv : ∀ x k, 24 ≤ k → k ≤ 30 → x = aluX k p1 0 → x = aluV k p1 0 := fun x k h1 h2 e => by rw [aluV_of (aluP_9 (by omega) h2 (by omega) (by omega)) l_p1 u_p1 (by decide) (by decide), e]
  have r0 := tmD p1
  have a30 : aluV 11 p1 16 = aluX 30 p1 0 := by
    rw [aluV_of (aluP_9 (by decide) (by decide) (by decide) (by decide)) l_p1 u_p1 (by decide) (by decide), ax30]
  simp only [b01_eq, decide_eq_true_eq, decide_eq_false_iff_not, beq_iff_eq, beq_eq_false_iff_ne, bne_iff_ne, bne_eq_false_iff_eq, Int.not_le, Int.not_lt, true_and, and_true, iteZ_ne, ne_eq, Bool.not_eq_false, Bool.not_eq_true, not_true_eq_false, not_false_eq_true, Decidable.not_not, forall_const, false_implies, true_iff, iff_true, false_iff, iff_false, Int.reduceEq, Int.reduceNeg, eq_self, if_true, if_false, reduceIte]
  refine ⟨fun h => by subst h; rfl, fun h24 => ⟨fun h => ?_, fun h25 => ⟨fun h => ?_, fun h26 => ⟨fun h => ?_, fun h27 => ⟨fun h => ?_, fun h28 => ⟨fun h => ?_, fun h29 => ?_⟩⟩⟩⟩⟩⟩
  · simp only [h24, h, Int.reduceEq, if_true, if_false]
    refine ⟨fun g => hv _ _ (by decide) (by decide) ?_, fun g => hv _ _ (by decide) (by decide) ?_⟩
    · rw [ax25, if_pos g]
    · rw [ax25, if_neg (by omega), wi32 (by omega) (by omega)]
  · simp only [h24, h25, h, Int.reduceEq, if_true, if_false]
    refine ⟨fun g0 => ⟨fun g => hv _ _ (by decide) (by decide) ?_, fun g => hv _ _ (by decide) (by decide) ?_⟩, fun g0 => hv _ _ (by decide) (by decide) ?_⟩
    · rw [ax26]; simp only [if_pos g]; rw [if_pos (by omega)]
    · rw [ax26]; simp only [if_neg (show ¬ 2147483647 < 0 - p1 by omega)]; rw [if_pos (by omega), wi32 (by omega) (by omega)]
    · rw [ax26]; simp only [if_neg (show ¬ 2147483647 < 0 - p1 by omega)]; rw [if_neg (by omega)]
  · simp only [h24, h25, h26, h, Int.reduceEq, if_true, if_false]
    refine ⟨fun g => hv _ _ (by decide) (by decide) ?_, fun g => hv _ _ (by decide) (by decide) ?_⟩
    · rw [ax27, if_neg g]
    · rw [ax27, if_pos g]
  · simp only [h24, h25, h26, h27, h, Int.reduceEq, if_true, if_false]
    refine ⟨fun g => hv _ _ (by decide) (by decide) ?_, fun g => hv _ _ (by decide) (by decide) ?_⟩ <;> rw [ax28] <;> omega
  · simp only [h24, h25, h26, h27, h28, h, Int.reduceEq, if_true, if_false]
    refine ⟨fun g => ⟨fun g2 => hv _ _ (by decide) (by decide) ?_, fun g2 => hv _ _ (by decide) (by decide) ?_⟩, fun g => ⟨fun g2 => hv _ _ (by decide) (by decide) ?_, fun g2 => hv _ _ (by decide) (by decide) ?_⟩⟩ <;> rw [ax29] <;> rw [r0] at * <;> (repeat' split at *) <;> omega
  · simp only [h24, h25, h26, h27, h28, h29, if_false]
    exact hv _ _ (by decide) (by decide) a30

theorem plain (i v ro p) : statR 2 rc tree ⟨i, fN, v, ro, p⟩ = P (i 0) (i 1) := by kernel_rfl
theorem ran : ranR us (fun _ _ => .auto) rc 2 tree = true := by kernel_rfl
theorem fineT : fineR 2 rc tree = true := by kernel_rfl
theorem ok : RcOk (cxOf 2) rc := okR us_ok ran fineT okb fun i v ro p hρ hcap hpre => by rw [plain]; exact holds (i 0) (i 1) (hρ.hi 0 _ rfl).1 (hρ.hi 0 _ rfl).2 (hρ.hi 1 _ rfl).1 (hρ.hi 1 _ rfl).2
end Go.Proofs.YtbfgkimoobkpmaaGreatDoor.CROne
