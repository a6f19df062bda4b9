/-
  Parts of the engine, a program's symbolic run, proved sound; and of plain laws.
-/
import Derived.Test.YteimodjkllldlabGreatDoorGmZi
set_option linter.unusedVariables false
set_option linter.unusedSimpArgs false

/-!  -/
noncomputable section
namespace Go.Eng
section
variable {w nr cS cI nI cD : Int}
theorem pok_open {cA : Int} (ho : ¬ openIn cS cI nI) (hI : adP cI nI nr) : ∀ (k : Nat), (k : Int) ≤ nI → ∀ j : Int, 0 ≤ j → rdZ cS j = 0 → rdZ (pokF cI cA cD k) j = rdZ cD j
 | 0, _, j, _, _ => rfl
 | k + 1, hk, j, j0, hj => by
  rw [pokF, qQh, if_neg]
  ·exact pok_open ho hI k (by omega) j j0 hj
  ·intro e
   have hr := hI k (by omega)
   unfold inR at hr
   have : j = IntKind.wrap .i64 (rdZ cI k) := by omega
   exact ho ⟨k, by omega, by omega, by rw [← this]; exact hj⟩
theorem quiet_runs {nc fuel M N A B : Int} {L : Lv} (n0 : 0 ≤ nc) (hc : nc ≤ 16384) (ho : FlowOk w nc nr cS L) (h : ∀ j : Int, 0 ≤ j → j < nr → rdZ cS j = 0 → IntKind.wrap .i32 (rdZ N j) = IntKind.wrap .i32 (rdZ M j))
  (hA : A = runP (decW w nc) nc (qQq nr (qQq fuel (qQq (nuP M) 0)))) (hB : B = runP (decW w nc) nc (qQq nr (qQq fuel (qQq (nuP N) 0)))) :
  rdZ B 5 = rdZ A 5 ∧ mkN B = mkN A ∧ rdZ B 3 = rdZ A 3 ∧ rdZ B 2 = rdZ A 2 ∧ (∀ j : Int, 0 ≤ j → j < nr → rdZ cS j = 0 → IntKind.wrap .i32 (rdZ (rdZ B 1) j) = IntKind.wrap .i32 (rdZ (rdZ A 1) j)) ∧ rdZ B 7 = rdZ A 7 := by
 have hd : decW w nc = decC w nc.toNat := rfl
 have hcc : ((nc.toNat : Nat) : Int) = nc := by omega
 rw [hd, runP_code] at hA hB
 rw [← hcc] at ho
 obtain ⟨q, q2⟩ := nq_runs (nc := nc.toNat) (by omega) ho (nq_nu ho h) fuel.toNat
 rw [hcc] at q q2
 obtain ⟨_, a1, a2, a3, _, a5, a6, a7⟩ := codeM_rd (Mac.runs (decC w nc.toNat) nc nr fuel.toNat (macM (nuP M))).1 ((Mac.runs (decC w nc.toNat) nc nr fuel.toNat (macM (nuP M))).2 : Int)
 obtain ⟨_, b1, b2, b3, _, b5, b6, b7⟩ := codeM_rd (Mac.runs (decC w nc.toNat) nc nr fuel.toNat (macM (nuP N))).1 ((Mac.runs (decC w nc.toNat) nc nr fuel.toNat (macM (nuP N))).2 : Int)
 rw [← hA] at a1 a2 a3 a5 a6 a7
 rw [← hB] at b1 b2 b3 b5 b6 b7
 refine ⟨b5.trans (q.ne.mq.trans a5.symm), ?_, b3.trans (q.ne.st.trans a3.symm), b2.trans (q.ne.pc.trans a2.symm), fun j j0 j1 hj => by rw [b1, a1]; exact q.ne.rm j j0 j1 hj, ?_⟩
 ·unfold mkN; rw [b6, a6, q.ne.nm]
 ·rw [b7, a7, q2]
end
theorem diff_self {c n : Int} (j : Nat) (h : (j : Int) < n) : ¬ qJu c c n n j := fun g => by
 unfold qJu at g
 simp_all <;> omega
theorem first_self (c n : Int) : qZu c c (qQq n (qQq n 0)) = -1 := (firstZ_none rfl fun j hj => diff_self j hj).symm
end Go.Eng
end
