/-
  Parts of the engine, a program's symbolic run, proved sound; and of plain laws.
-/
import Derived.Test.YtemcjakecoceaaaGreatDoorGmE
import Derived.Test.YtemcjakecoceaaaGreatDoorGmH
set_option linter.unusedVariables false
set_option linter.unusedSimpArgs false

/-!  -/
section
namespace Go.Eng
theorem pok_rd {c x a b : Int} (h : ∀ j : Int, 0 ≤ j → rdZ a j = rdZ b j) : ∀ (k : Nat) (j : Int), 0 ≤ j → rdZ (pokF c x a k) j = rdZ (pokF c x b k) j
 | 0, j, h0 => h j h0
 | k + 1, j, h0 => by
  simp only [pokF]
  rw [rdZ_upd, rdZ_upd, pok_rd h k j h0]
theorem app0_rd (q j : Int) (h : 0 ≤ j) : rdZ (appZ 0 0 q) j = rdZ q j := by
 rw [rdZ_app, if_neg (by omega)]
 congr 1
 omega
theorem runs_stay {cq nc nr : Int} {m : Mac} {i : Nat} (h : (Mac.runs cq nc nr i m).1.st ≠ 0) : ∀ d, Mac.runs cq nc nr (i + d) m = Mac.runs cq nc nr i m
 | 0 => rfl
 | d + 1 => by
  rw [← Nat.add_assoc, runs_succ, runs_stay h d, if_neg h]
theorem first_lo (c d q : Int) : -1 ≤ firstZ c d q := by
 unfold firstZ
 split <;> omega
theorem chk_zero {nC nD nS nI nO cI cO : Int} (h : chk7 nC nD nS nI nO cI cO = 0) : nC ≤ 16384 ∧ nD ≤ 2048 ∧ nI ≤ 255 ∧ nO ≤ 255 ∧ nS = nD ∧ adP cI nI nD ∧ adP cO nO nD ∧ ¬ twP cI nI := by
 unfold chk7 at h
 split at h
 ·cases h
 ·split at h
  ·cases h
  ·split at h
   ·cases h
   ·rename_i h1 h2 h3
    refine ⟨by omega, by omega, by omega, by omega, Classical.byContradiction fun e => h2 (.inl e), Classical.byContradiction fun e => h2 (.inr (.inl e)), Classical.byContradiction fun e => h2 (.inr (.inr e)), h3⟩
section
variable {cK c1 nD fuel : Int} {k : Nat}
def Cq (cK c1 : Int) (k : Nat) (nD i rg rm pc st mq nm : Int) : Prop := ∃ A : Mac, Cp cK c1 k nD i A ⟨rg, rm, pc, st, A.co, mq, nm⟩
theorem cq_nu {x y : Int} (hx : x = zeroZ 32) (h : ∀ j : Int, 0 ≤ j → rdZ c1 j = rdZ y j) : Cq cK c1 k nD 0 x y 0 0 0 0 := by
 subst hx
 refine ⟨macM (nuP c1), ?_⟩
 rw [macM_nu]
 exact ⟨(macM_nu c1).symm, Int.le_refl _, rfl, rfl, rfl, rfl, rfl, rfl, fun j j0 _ => by rw [h j j0]⟩
theorem cq_step {i rg rm pc st mq nm Z : Int} (hi : i ≤ 300) (h : Cq cK c1 k nD i rg rm pc st mq nm) (hZ : Z = rstZ cK k (consZ rg (consZ rm (consZ nD (consZ pc (consZ st (consZ mq (consZ nm 0)))))))) :
  Cq cK c1 k nD (i + 1) (rdZ Z 0) (rdZ Z 1) (IntKind.wrap .i64 (rdZ Z 2)) (IntKind.wrap .i64 (rdZ Z 3)) (rdZ Z 4) (IntKind.wrap .i64 (rdZ Z 5)) := by
 obtain ⟨A, h⟩ := h
 have h1 := cp_step h
 obtain ⟨c, e⟩ := x_rst (co := A.co) hZ
 rw [e] at h1
 have h2 : c = (A.step (decC cK k) k nD).co := h1.sim.2.2.2.1
 subst h2
 exact ⟨_, cp_wm (by omega) h1⟩
theorem cq_nm {i rg rm pc st mq nm : Int} (h : Cq cK c1 k nD i rg rm pc st mq nm) : 0 ≤ nm ∧ nm ≤ i := by
 obtain ⟨A, h⟩ := h
 obtain ⟨o1, o2⟩ := cp_ok h
 have h6 : nm = A.nm := h.sim.2.2.2.2.2.1
 exact ⟨by rw [h6]; exact o1.2.2.2, by omega⟩
theorem cq_end {i rg rm pc st mq nm R : Int} (hi : i ≤ 300) (h : Cq cK c1 k nD i rg rm pc st mq nm) (he : st ≠ 0 ∨ fuel.toNat ≤ i.toNat) (hif : i ≤ fuel ∨ i = 0) (hR : R = runP (decC cK k) k (consZ nD (consZ fuel (consZ (nuP c1) 0)))) :
  rowEq [.int .i32] rg (rdZ R 0) 32 ∧ rowEq [.int .i32] rm (rdZ R 1) nD ∧ pc = IntKind.wrap .i64 (rdZ R 2) ∧ st = IntKind.wrap .i64 (rdZ R 3) ∧ nm = mkN R ∧ rowEq [.int .i64, .int .i64, .int .i64] mq (rdZ R 5) (mkN R) := by
 obtain ⟨A, h⟩ := h
 have hA : A = (Mac.runs (decC cK k) k nD fuel.toNat (macM (nuP c1))).1 := by
  have hr := h.run
  rcases Nat.le_total fuel.toNat i.toNat with g | g
  ·have h0 := h.nn
   rw [hr]; congr 2; omega
  ·have hs : A.st = st := h.sim.2.2.1.symm
   by_cases e : fuel.toNat = i.toNat
   ·rw [hr, e]
   ·have hst : A.st ≠ 0 := by rw [hs]; rcases he with he | he; exact he; omega
    have := runs_stay (d := fuel.toNat - i.toNat) (by rw [← hr]; exact hst)
    rw [show i.toNat + (fuel.toNat - i.toNat) = fuel.toNat by omega] at this
    rw [this]; exact hr
 obtain ⟨⟨o1, o2, o3, o4⟩, o5⟩ := cp_ok h
 rw [runP_code, ← hA] at hR
 subst hR
 obtain ⟨r0, r1, r2, r3, r4, r5, r6, r7⟩ := codeM_rd A ((Mac.runs (decC cK k) k nD fuel.toNat (macM (nuP c1))).2 : Int)
 rw [r0, r1, r2, r3, r5, mkN_code ⟨o1, o2, o3, o4⟩ (by omega)]
 obtain ⟨g1, g2, g3, g4, g5, g6, g7⟩ := h.sim
 simp only at g1 g2 g3 g5 g6 g7
 subst g1 g2 g3 g5 g6
 refine ⟨rowEq_refl _ _ _, rowEq_one fun j hj => (g7 j (Int.natCast_nonneg _) hj).symm, (w64 o1.1 o1.2).symm, (w64 o2.1 o2.2).symm, rfl, rowEq_refl _ _ _⟩
end
end Go.Eng
end
