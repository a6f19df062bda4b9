/-
  Parts of the engine, a program's symbolic run, proved sound; and of plain laws.
-/
import Derived.Test.YteimodjkllldlaaGreatDoorGmQ
import Derived.Test.YteimodjkllldlaaGreatDoorGmL
set_option linter.unusedVariables false
set_option linter.unusedSimpArgs false

/-!  -/
noncomputable section
namespace Go.Eng
def foK : Int := qQq 2283798528 (qQq 1344342016 (qQq 2885681152 0))
theorem foK_rd : rdZ foK 0 = 2283798528 ∧ rdZ foK 1 = 1344342016 ∧ rdZ foK 2 = 2885681152 := by
 have h := qXa [2283798528, 1344342016, 2885681152]
 exact ⟨h 0, h 1, h 2⟩
theorem dcM : decZ (IntKind.wrap .u32 1344342016) 0 = 20 ∧ decZ (IntKind.wrap .u32 1344342016) 1 = 1 ∧ decZ (IntKind.wrap .u32 1344342016) 2 = 1 ∧ decZ (IntKind.wrap .u32 1344342016) 3 = 1 ∧ decZ (IntKind.wrap .u32 1344342016) 4 = 0 ∧ decZ (IntKind.wrap .u32 1344342016) 5 = 0 := by decide
theorem fo_1 (rm : Int) : ∃ rg, Fm.on1 foK 3 1 (⟨frgZ 32, rm, 0, 0, 0, 0⟩, 0) = (⟨rg, rm, 1, 0, updZ 0 0 (qQq 0 (qQq 0 (qQq 2 0))), 1⟩, 0) := by
 obtain ⟨a0, a1, a2, a3, a4, a5⟩ := dcA
 have hr : rdZ (frgZ 32) 0 = mayZ 0 1 := frg_at 32 0 (by decide)
 obtain ⟨m0, m1⟩ := may_rd 0 1
 have h := on1_does (w := foK) (nc := 3) (nr := 1) (m := ⟨frgZ 32, rm, 0, 0, 0, 0⟩) rfl (show (0 : Int) ≤ 0 by decide) (show (0 : Int) < 3 by decide)
 simp only [foK_rd.1, a0, a1, a2, a3, a4] at h
 have h := h (by decide) (by
  rw [Ne, fto_told, Classical.not_not]
  unfold Fm.told
  rw [if_neg (by decide), if_neg (by decide)]
  refine .inl ?_
  unfold Fm.k
  simp only [hr, m1]; decide)
 rw [h]
 unfold Fm.does
 rw [if_neg (by decide), if_neg (by decide), if_neg (by decide), if_neg (by decide), if_pos (by decide)]
 have hx : Fm.x ⟨frgZ 32, rm, 0, 0, 0, 0⟩ 0 = 0 := by unfold Fm.x; simp only [hr, m0]; decide
 rw [hx, show IntKind.wrap .i32 (0 + 0) = 0 by decide]
 unfold Fm.mem
 rw [if_neg (by decide), if_neg (by decide)]
 unfold Fm.memo
 rw [if_neg (by decide)]
 unfold Fm.put
 rw [if_pos (by decide)]
 unfold Fm.goes
 exact ⟨_, rfl⟩
theorem fo_2 (rg rm mq : Int) : ∃ rg', Fm.on1 foK 3 1 (⟨rg, rm, 1, 0, mq, 1⟩, 0) = (⟨rg', rm, 2, 0, updZ mq 1 (qQq 1 (qQq (-1) (qQq 3 0))), 2⟩, 0) := by
 obtain ⟨a0, a1, a2, a3, a4, a5⟩ := dcM
 have h := on1_does (w := foK) (nc := 3) (nr := 1) (m := ⟨rg, rm, 1, 0, mq, 1⟩) rfl (show (0 : Int) ≤ 1 by decide) (show (1 : Int) < 3 by decide)
 simp only [foK_rd.2.1, a0, a1, a2, a3, a4] at h
 have h := h (by decide) (by
  rw [Ne, fto_told, Classical.not_not]
  unfold Fm.told
  rw [if_neg (by decide), if_neg (by decide)]
  exact .inr (by decide))
 rw [h]
 unfold Fm.does
 rw [if_pos (by decide)]
 unfold Fm.reck
 rw [if_neg (by omega)]
 have hc : ∀ a, aluC 20 a = 3 := fun a => by unfold aluC; rw [if_neg (by decide)]; decide
 rw [hc]
 unfold Fm.put
 rw [if_pos (by decide)]
 unfold Fm.on Fm.goes
 simp only [show IntKind.wrap .i64 (1 + 1) = 2 by decide, show (1 : Int) + 1 = 2 by decide]
 exact ⟨_, rfl⟩
theorem fo_3 (rg rm mq : Int) : Fm.on1 foK 3 1 (⟨rg, rm, 2, 0, mq, 2⟩, 0) = (⟨rg, rm, 2, 1, updZ mq 2 (qQq 2 (qQq (-1) (qQq 1 0))), 3⟩, 0) := by
 obtain ⟨a0, a1, a2, a3, a4, a5⟩ := dcD
 have h := on1_does (w := foK) (nc := 3) (nr := 1) (m := ⟨rg, rm, 2, 0, mq, 2⟩) rfl (show (0 : Int) ≤ 2 by decide) (show (2 : Int) < 3 by decide)
 simp only [foK_rd.2.2, a0, a1, a2, a3, a4] at h
 have h := h (by decide) (by
  rw [Ne, fto_told, Classical.not_not]
  unfold Fm.told
  rw [if_neg (by decide), if_neg (by decide)]
  exact .inr (by decide))
 refine h.trans ?_
 unfold Fm.does
 rw [if_neg (by decide), if_neg (by decide), if_neg (by decide), if_neg (by decide), if_neg (by decide), if_neg (by decide), if_neg (by decide), if_neg (by decide), if_neg (by decide), if_neg (by decide), if_neg (by decide), if_pos (by decide)]
 rfl
theorem fo_T {cD cS T : Int} (hT : T = ftlZ foK 3 (qQq 1 (qQq 9 (qQq cD (qQq cS 0))))) : rdZ T 1 = 3 ∧ rdZ T 2 = 1 ∧ rdZ T 3 = 2 ∧ rdZ T 4 = 0 ∧ IntKind.wrap .i64 (rdZ (rdZ (rdZ T 0) 1) 2) = 3 := by
 obtain ⟨g1, h1⟩ := fo_1 (frmZ cD cS 1)
 obtain ⟨g2, h2⟩ := fo_2 g1 (frmZ cD cS 1) (updZ 0 0 (qQq 0 (qQq 0 (qQq 2 0))))
 have h3 := fo_3 g2 (frmZ cD cS 1) (updZ (updZ 0 0 (qQq 0 (qQq 0 (qQq 2 0)))) 1 (qQq 1 (qQq (-1) (qQq 3 0))))
 have t1 : Fm.tell foK 3 1 ⟨frgZ 32, frmZ cD cS 1, 0, 0, 0, 0⟩ 1 = _ := qKq (i := 0) rfl h1
 have t2 := qKq t1 h2
 have t3 := qKq t2 h3
 have t9 := (tell_stay (i := 3) (.inr (by rw [t3]; show (1 : Int) ≠ 0; decide)) 6).trans t3
 obtain ⟨r0, r1, r2, r3, r4⟩ := ftl_rd hT t9
 refine ⟨r1, r2, r3, r4, ?_⟩
 rw [r0]
 simp only [qQp]
 rw [if_neg (by decide), if_pos (by decide)]
 have h := qXa [1, -1, 3]
 have h2 : rdZ (qQq 1 (qQq (-1) (qQq 3 0))) 2 = 3 := h 2
 rw [h2]; decide
theorem fo_chk : chk7 3 1 1 0 0 0 0 = 0 := by
 have ha : adP 0 0 1 := fun i hi => by omega
 unfold chk7
 rw [if_neg (by decide), if_neg (by simp [ha]), if_neg]
 rintro ⟨i, k, h1, h2, h3⟩
 omega
end Go.Eng
end
