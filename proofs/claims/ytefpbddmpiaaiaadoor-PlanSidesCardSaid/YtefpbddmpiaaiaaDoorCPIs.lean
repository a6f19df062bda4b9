/-
  What label.Is answers, as numbers of what it is handed: its run by the engine, and the plain statement behind it. No condition.
-/
import Derived.Test.YtefpbddmpiaaiaaDoorGab
import Derived.Test.YtefpbddmpiaaiaaDoorGib
import Derived.Test.YtefpbddmpiaaiaaDoorGmP
namespace Go.Proofs.YtefpbddmpiaaiaaDoor.CPIs
open Go.Eng Go.RowKit
set_option linter.unusedVariables false
set_option linter.unusedSimpArgs false
set_option maxRecDepth 100000
def rc : Rc := ⟨36, [none], [.str], [], .one, [.bool (.f 53 (.v 0) (.c 0) (.c 0))]⟩
theorem okb : rc.ok = true := by kernel_rfl
noncomputable def us : SMs := fun Γ ins n => smH (cxG n Γ ins) [] (smAnd 49 (libCon1 Γ ins n) (smAnd 50 (libTrim Γ ins n) (smR (cxG n Γ ins) [])))
theorem us_ok : SMsOk us := fun Γ ins n => smH_ok (rhs_nil _) (smAnd_ok (libCon1_ok Γ ins n) (smAnd_ok (libTrim_ok Γ ins n) (smR_ok (rcs_nil _))))
def tree : TT (List E) :=
(.br (.f 20 (.v 0) (.f 11 (.c 0) (.f 11 (.c 0) (.c 0) (.c 0)) (.c 0)) (.c 0))
  (.leaf [(.c 0)])
  (.br (.b .lt .i64 (.c 24) (.f 21 (.v 0) (.c 0) (.c 0)))
  (.leaf [(.c 0)])
  (.br (.b .le .i64 (.c 1) (.f 21 (.v 0) (.c 0) (.c 0)))
  (.br (.b .eq .i64 (.f 21 (.f 11 (.c 1) (.f 11 (.f 18 (.f 13 (.v 0) (.c 1) (.c 0)) (.c 0) (.c 0)) (.c 0) (.c 0)) (.c 0)) (.c 0) (.c 0)) (.c 1))
  (.br (.nt (.f 51 (.f 11 (.c 26) (.f 11 (.f 11 (.c 97) (.f 11 (.c 98) (.f 11 (.c 99) (.f 11 (.c 100) (.f 11 (.c 101) (.f 11 (.c 102) (.f 11 (.c 103) (.f 11 (.c 104) (.f 11 (.c 105) (.f 11 (.c 106) (.f 11 (.c 107) (.f 11 (.c 108) (.f 11 (.c 109) (.f 11 (.c 110) (.f 11 (.c 111) (.f 11 (.c 112) (.f 11 (.c 113) (.f 11 (.c 114) (.f 11 (.c 115) (.f 11 (.c 116) (.f 11 (.c 117) (.f 11 (.c 118) (.f 11 (.c 119) (.f 11 (.c 120) (.f 11 (.c 121) (.f 11 (.c 122) (.c 0) (.c 0)) (.c 0)) (.c 0)) (.c 0)) (.c 0)) (.c 0)) (.c 0)) (.c 0)) (.c 0)) (.c 0)) (.c 0)) (.c 0)) (.c 0)) (.c 0)) (.c 0)) (.c 0)) (.c 0)) (.c 0)) (.c 0)) (.c 0)) (.c 0)) (.c 0)) (.c 0)) (.c 0)) (.c 0)) (.c 0)) (.c 0) (.c 0)) (.c 0)) (.f 22 (.f 11 (.c 1) (.f 11 (.f 18 (.f 13 (.v 0) (.c 1) (.c 0)) (.c 0) (.c 0)) (.c 0) (.c 0)) (.c 0)) (.c 0) (.c 0)) (.c 0)))
  (.leaf [(.c 0)])
  (.leaf [(.f 20 (.f 52 (.v 0) (.f 11 (.c 37) (.f 11 (.f 11 (.c 97) (.f 11 (.c 98) (.f 11 (.c 99) (.f 11 (.c 100) (.f 11 (.c 101) (.f 11 (.c 102) (.f 11 (.c 103) (.f 11 (.c 104) (.f 11 (.c 105) (.f 11 (.c 106) (.f 11 (.c 107) (.f 11 (.c 108) (.f 11 (.c 109) (.f 11 (.c 110) (.f 11 (.c 111) (.f 11 (.c 112) (.f 11 (.c 113) (.f 11 (.c 114) (.f 11 (.c 115) (.f 11 (.c 116) (.f 11 (.c 117) (.f 11 (.c 118) (.f 11 (.c 119) (.f 11 (.c 120) (.f 11 (.c 121) (.f 11 (.c 122) (.f 11 (.c 48) (.f 11 (.c 49) (.f 11 (.c 50) (.f 11 (.c 51) (.f 11 (.c 52) (.f 11 (.c 53) (.f 11 (.c 54) (.f 11 (.c 55) (.f 11 (.c 56) (.f 11 (.c 57) (.f 11 (.c 95) (.c 0) (.c 0)) (.c 0)) (.c 0)) (.c 0)) (.c 0)) (.c 0)) (.c 0)) (.c 0)) (.c 0)) (.c 0)) (.c 0)) (.c 0)) (.c 0)) (.c 0)) (.c 0)) (.c 0)) (.c 0)) (.c 0)) (.c 0)) (.c 0)) (.c 0)) (.c 0)) (.c 0)) (.c 0)) (.c 0)) (.c 0)) (.c 0)) (.c 0)) (.c 0)) (.c 0)) (.c 0)) (.c 0)) (.c 0)) (.c 0)) (.c 0)) (.c 0)) (.c 0)) (.c 0) (.c 0)) (.c 0)) (.c 0)) (.f 11 (.c 0) (.f 11 (.c 0) (.c 0) (.c 0)) (.c 0)) (.c 0))]))
  (.bad 200))
  (.bad 200))))

def P (s0 : Int) : Prop :=
 (((seqZ s0 (consZ 0 (consZ 0 0))) ≠ 0 →
  ((0 : Int) ≠ 0 ↔ ((isZ s0) : Int) ≠ 0) ∧ True) ∧ ((seqZ s0 (consZ 0 (consZ 0 0))) = 0 →
  (((bool01 (decide (24 < (slenZ s0)))) ≠ 0 →
   ((0 : Int) ≠ 0 ↔ ((isZ s0) : Int) ≠ 0) ∧ True) ∧ ((bool01 (decide (24 < (slenZ s0)))) = 0 →
   (((bool01 (decide (1 ≤ (slenZ s0)))) ≠ 0 →
    (((bool01 ((slenZ (consZ 1 (consZ (dropZ (rdZ s0 1) 0) 0))) == 1)) ≠ 0 →
     (((bool01 ((hasB (consZ 26 (consZ (consZ 97 (consZ 98 (consZ 99 (consZ 100 (consZ 101 (consZ 102 (consZ 103 (consZ 104 (consZ 105 (consZ 106 (consZ 107 (consZ 108 (consZ 109 (consZ 110 (consZ 111 (consZ 112 (consZ 113 (consZ 114 (consZ 115 (consZ 116 (consZ 117 (consZ 118 (consZ 119 (consZ 120 (consZ 121 (consZ 122 0)))))))))))))))))))))))))) 0)) (sbyteZ (consZ 1 (consZ (dropZ (rdZ s0 1) 0) 0)) 0)) == 0)) ≠ 0 →
      ((0 : Int) ≠ 0 ↔ ((isZ s0) : Int) ≠ 0) ∧ True) ∧ ((bool01 ((hasB (consZ 26 (consZ (consZ 97 (consZ 98 (consZ 99 (consZ 100 (consZ 101 (consZ 102 (consZ 103 (consZ 104 (consZ 105 (consZ 106 (consZ 107 (consZ 108 (consZ 109 (consZ 110 (consZ 111 (consZ 112 (consZ 113 (consZ 114 (consZ 115 (consZ 116 (consZ 117 (consZ 118 (consZ 119 (consZ 120 (consZ 121 (consZ 122 0)))))))))))))))))))))))))) 0)) (sbyteZ (consZ 1 (consZ (dropZ (rdZ s0 1) 0) 0)) 0)) == 0)) = 0 →
      (((seqZ (trimZ s0 (consZ 37 (consZ (consZ 97 (consZ 98 (consZ 99 (consZ 100 (consZ 101 (consZ 102 (consZ 103 (consZ 104 (consZ 105 (consZ 106 (consZ 107 (consZ 108 (consZ 109 (consZ 110 (consZ 111 (consZ 112 (consZ 113 (consZ 114 (consZ 115 (consZ 116 (consZ 117 (consZ 118 (consZ 119 (consZ 120 (consZ 121 (consZ 122 (consZ 48 (consZ 49 (consZ 50 (consZ 51 (consZ 52 (consZ 53 (consZ 54 (consZ 55 (consZ 56 (consZ 57 (consZ 95 0))))))))))))))))))))))))))))))))))))) 0))) (consZ 0 (consZ 0 0))) : Int) ≠ 0 ↔ ((isZ s0) : Int) ≠ 0) ∧ True))) ∧ ((bool01 ((slenZ (consZ 1 (consZ (dropZ (rdZ s0 1) 0) 0))) == 1)) = 0 →
     False))) ∧ ((bool01 (decide (1 ≤ (slenZ s0)))) = 0 →
    False))))))

theorem holds (s0 : Int) : P s0 := by
  unfold P
  simp only [b01_eq, decide_eq_true_eq, decide_eq_false_iff_not, beq_iff_eq, beq_eq_false_iff_ne, bne_iff_ne, bne_eq_false_iff_eq, Int.not_le, Int.not_lt, true_and, and_true, iteZ_ne, ne_eq, Bool.not_eq_false, Bool.not_eq_true, not_true_eq_false, not_false_eq_true, Decidable.not_not, forall_const, false_implies, true_iff, iff_true, false_iff, iff_false, Int.reduceEq, Int.reduceNeg, eq_self, if_true, if_false, reduceIte, sbyte_cut, slen_one]
  have hb := sbyteZ_bd s0 0
  have hl := slenZ_bd s0
  have hs := has_small small_code hb.1 hb.2
  have ht := trim_other (s := s0) other_code
  generalize consZ 26 _ = S at hs ⊢
  generalize trimZ s0 _ = T at ht ⊢
  simp only [seq_empty0, isZ_eq]
  unfold isName
  refine ⟨fun h => ?_, fun h => ⟨fun h2 => ?_, fun h2 => ⟨fun h3 => ⟨fun h4 => ?_, fun h4 => ?_⟩, fun h3 => ?_⟩⟩⟩
  · intro g; omega
  · intro g; omega
  · intro g; exact (hs.2 g.2.2.1) h4
  · have h5 := hs.1 h4
    refine (not_congr (not_congr ht)).trans ?_
    rw [Classical.not_not, Classical.not_not]
    exact ⟨fun g => ⟨h3, h2, h5, g⟩, fun g => g.2.2.2⟩
  · omega

theorem plain (i : Nat → Int) (v : Nat → Value) (ro : Nat → RO) (p : Program) : TT.hdP (rc.cx (cxOf 2)) (rlF ⟨i, fN, v, ro, p⟩ rc.res) tree ⟨i, fN, v, ro, p⟩ = P (i 0) := by kernel_rfl
theorem ran : TT.beq (projL (rc.pj (cxOf 2)) (runT us (fun _ _ => .auto) rc 2 rc.f rc.args ⟨[], []⟩)) tree = true := by kernel_rfl
theorem fineT : (TT.fine (rc.cx (cxOf 2)) 1000 [] tree && (rc.cx (cxOf 2)).okB 1000 && SV.vbL 1000 rc.args && TT.tidy (rc.cx (cxOf 2)) [] tree) = true := by kernel_rfl
theorem ok : RcOk (cxOf 2) rc :=
  rc_run (runT_ok us_ok (fun _ _ => .auto) rc 2) ran fineT okb fun ρ hρ hcap hpre => by
    obtain ⟨i, f, v, ro, p⟩ := ρ
    have hf : f = fN := hρ.hF
    subst hf
    rw [plain]
    exact holds (i 0)
end Go.Proofs.YtefpbddmpiaaiaaDoor.CPIs
