/-
  Parts of the engine, a program's symbolic run, proved sound; and of plain laws.
-/
import Derived.Test.YtfkdlidcogpncaaGreatDoorGmO
set_option linter.unusedVariables false
set_option linter.unusedSimpArgs false

/-!  -/
noncomputable section
namespace Go.Eng
theorem dec_no {x : Int} (e : decZ (IntKind.wrap .u32 x) 5 ≠ 0) : decZ (IntKind.wrap .u32 x) 0 = 0 := by
 unfold decZ at e ⊢
 by_cases hP : decP (IntKind.wrap .u32 x % 4294967296)
 ·simp [hP] at e
 ·simp [hP]
theorem dec_op0 {x : Int} (e : decZ (IntKind.wrap .u32 x) 5 = 0) : decZ (IntKind.wrap .u32 x) 0 ≠ 0 := by
 have := (dec_in x e).1; omega
def Rt (cK nc nr cD cS i rx rk rm hv pc st mq nm : Int) : Prop :=
 ∃ rg fm, Ft cK nc nr ⟨frgZ 32, frmZ cD cS nr, 0, 0, 0, 0⟩ i rg fm pc st mq nm ∧ Zm nr ⟨rg, fm, pc, st, mq, nm⟩ ⟨rx, rk, rm, hv, pc, st, mq, nm⟩
section
variable {cK nc nr cD cS i rx rk rm hv pc st mq nm fuel T : Int}
theorem rt_nm (h : Rt cK nc nr cD cS i rx rk rm hv pc st mq nm) : 0 ≤ nm ∧ nm ≤ i := by
 obtain ⟨rg, fm, h, -⟩ := h; exact ft_nm h
theorem rt_end (h : Rt cK nc nr cD cS i rx rk rm hv pc st mq nm) (he : st ≠ 0 ∨ fuel.toNat ≤ i.toNat) (hif : i ≤ fuel ∨ i = 0) (hi : i ≤ 1000000) (hT : T = ftlZ cK nc (qQq nr (qQq fuel (qQq cD (qQq cS 0))))) :
  nm = IntKind.wrap .i64 (rdZ T 1) ∧ mq = rdZ T 0 ∧ st = IntKind.wrap .i64 (rdZ T 2) ∧ pc = IntKind.wrap .i64 (rdZ T 3) ∧ 0 = IntKind.wrap .i64 (rdZ T 4) := by
 obtain ⟨rg, fm, h, -⟩ := h; exact ft_end h he hif hi hT
theorem rt_step (h : Rt cK nc nr cD cS i rx rk rm hv pc st mq nm) (hs : st = 0) (hi : i ≤ 1000000) (hif : i < fuel) (hT : T = ftlZ cK nc (qQq nr (qQq fuel (qQq cD (qQq cS 0))))) :
  let Z := rfsZ cK nc (qQq nr (qQq rx (qQq rk (qQq rm (qQq hv (qQq pc (qQq st (qQq mq (qQq nm 0)))))))))
  (rdZ Z 8 ≠ 0 → Rt cK nc nr cD cS (i + 1) (rdZ Z 0) (rdZ Z 1) (rdZ Z 2) (rdZ Z 3) (IntKind.wrap .i64 (rdZ Z 4)) (IntKind.wrap .i64 (rdZ Z 5)) (rdZ Z 6) (IntKind.wrap .i64 (rdZ Z 7))) ∧
  (rdZ Z 8 = 0 → IntKind.wrap .i64 (rdZ Z 7) = IntKind.wrap .i64 (rdZ T 1) ∧ rdZ Z 6 = rdZ T 0 ∧ IntKind.wrap .i64 (rdZ Z 5) = IntKind.wrap .i64 (rdZ T 2) ∧ IntKind.wrap .i64 (rdZ Z 4) = IntKind.wrap .i64 (rdZ T 3) ∧ 12 = IntKind.wrap .i64 (rdZ T 4)) := by
 intro Z
 obtain ⟨rg, fm, h, z⟩ := h
 obtain ⟨ok1, ok2, ok3⟩ := h.2.2.1
 have ok3 : 0 ≤ nm := ok3
 have hnm := h.2.2.2
 have i64 : I64 nm := by unfold I64; omega
 by_cases g : pc < 0 ∨ nc ≤ pc
 ·obtain ⟨r0, r1, r2, r3, r4, r5, r6, r7, r8⟩ := rfs_rd (ro_fetch (w := cK) (nr := nr) ⟨rx, rk, rm, hv, pc, st, mq, nm⟩ g)
  refine ⟨fun _ => ?_, fun e => by rw [show rdZ Z 8 = 1 from r8] at e; exact absurd e (by decide)⟩
  show Rt _ _ _ _ _ _ (rdZ Z 0) (rdZ Z 1) (rdZ Z 2) (rdZ Z 3) _ _ _ _
  rw [r0, r1, r2, r3, r4, r5, r6, r7, w64 ok1.1 ok1.2, w64 i64.1 i64.2, w64 (x := 2) (by decide) (by decide)]
  exact ⟨rg, fm, ft_fetch h hs g, zm_st z 2⟩
 have g0 : 0 ≤ pc := by omega
 have g1 : pc < nc := by omega
 by_cases e5 : decZ (IntKind.wrap .u32 (rdZ cK pc)) 5 = 0
 case neg =>
  obtain ⟨r0, r1, r2, r3, r4, r5, r6, r7, r8⟩ := rfs_rd (ro_form (w := cK) (nr := nr) ⟨rx, rk, rm, hv, pc, st, mq, nm⟩ g0 g1 e5)
  refine ⟨fun _ => ?_, fun e => by rw [show rdZ Z 8 = 1 from r8] at e; exact absurd e (by decide)⟩
  show Rt _ _ _ _ _ _ (rdZ Z 0) (rdZ Z 1) (rdZ Z 2) (rdZ Z 3) _ _ _ _
  rw [r0, r1, r2, r3, r4, r5, r6, r7, w64 ok1.1 ok1.2, w64 i64.1 i64.2, w64 (x := 3) (by decide) (by decide)]
  exact ⟨rg, fm, ft_form h hs g0 g1 (dec_no e5), zm_st z 3⟩
 have hop := dec_op0 e5
 have hd := dec_in (rdZ cK pc) e5
 obtain ⟨no, go⟩ := ro_go (w := cK) (nc := nc) (nr := nr) (m := ⟨rx, rk, rm, hv, pc, st, mq, nm⟩) g0 g1 e5 rfl rfl rfl rfl rfl
 have tt := zm_told z (op := decZ (IntKind.wrap .u32 (rdZ cK pc)) 0) hd.2.1.1 hd.2.1.2 hd.2.2.1.1 hd.2.2.1.2 hd.2.2.2.1.1 hd.2.2.2.1.2
 have ft := fto_told (rg := rg) (op := decZ (IntKind.wrap .u32 (rdZ cK pc)) 0) (d := decZ (IntKind.wrap .u32 (rdZ cK pc)) 1) (a := decZ (IntKind.wrap .u32 (rdZ cK pc)) 2) (b := decZ (IntKind.wrap .u32 (rdZ cK pc)) 3)
 by_cases t : Rm.told ⟨rx, rk, rm, hv, pc, st, mq, nm⟩ (decZ (IntKind.wrap .u32 (rdZ cK pc)) 0) (decZ (IntKind.wrap .u32 (rdZ cK pc)) 1) (decZ (IntKind.wrap .u32 (rdZ cK pc)) 2) (decZ (IntKind.wrap .u32 (rdZ cK pc)) 3)
 case neg =>
  obtain ⟨r0, r1, r2, r3, r4, r5, r6, r7, r8⟩ := rfs_rd (no t)
  refine ⟨fun e => absurd (show rdZ Z 8 = 0 from r8) e, fun _ => ?_⟩
  show IntKind.wrap .i64 (rdZ Z 7) = _ ∧ rdZ Z 6 = _ ∧ IntKind.wrap .i64 (rdZ Z 5) = _ ∧ IntKind.wrap .i64 (rdZ Z 4) = _ ∧ _
  rw [r4, r5, r6, r7, w64 ok1.1 ok1.2, w64 i64.1 i64.2, w64 ok2.1 ok2.2]
  exact ft_stop h hs g0 g1 rfl rfl rfl rfl hop (ft.2 fun f => t (tt.1 f)) hif hi hT
 obtain ⟨r0, r1, r2, r3, r4, r5, r6, r7, r8⟩ := rfs_rd (go t)
 refine ⟨fun _ => ?_, fun e => by rw [show rdZ Z 8 = 1 from r8] at e; exact absurd e (by decide)⟩
 show Rt _ _ _ _ _ _ (rdZ Z 0) (rdZ Z 1) (rdZ Z 2) (rdZ Z 3) _ _ _ _
 rw [r0, r1, r2, r3, r4, r5, r6, r7]
 have hf := ft_does h hs g0 g1 rfl rfl rfl rfl rfl hop (fun f => ft.1 f (tt.2 t)) hi rfl
 have hz := zm_does z (op := decZ (IntKind.wrap .u32 (rdZ cK pc)) 0) hd.1.1 hd.2.1.1 hd.2.1.2 hd.2.2.1.1 hd.2.2.1.2 hd.2.2.2.1.1 hd.2.2.2.1.2 hd.2.2.2.2.1 hd.2.2.2.2.2
 have hk := fs_does (nr := nr) (op := decZ (IntKind.wrap .u32 (rdZ cK pc)) 0) (d := decZ (IntKind.wrap .u32 (rdZ cK pc)) 1) (a := decZ (IntKind.wrap .u32 (rdZ cK pc)) 2) (b := decZ (IntKind.wrap .u32 (rdZ cK pc)) 3) h.2.2.1 (n := decZ (IntKind.wrap .u32 (rdZ cK pc)) 4) (by have := hd.2.2.2.2; unfold I64; omega)
 rw [fdo_ev] at hf
 generalize Fm.does ⟨rg, fm, pc, st, mq, nm⟩ nr _ _ _ _ _ = D at hf hz hk
 generalize Rm.does ⟨rx, rk, rm, hv, pc, st, mq, nm⟩ nr _ _ _ _ _ = E at hz
 obtain ⟨q0, q1, q2, q3, q4, q5⟩ := fcode_rd D
 rw [q0, q1, q2, q3, q4, q5] at hf
 obtain ⟨⟨o1, o2, o3⟩, o4⟩ := hk
 simp only at o4
 rw [w64 o1.1 o1.2, w64 o2.1 o2.2, w64 (x := D.nm) (by omega) (by omega)] at hf
 rw [hz.pc, hz.st, hz.nm, hz.mq, w64 o1.1 o1.2, w64 o2.1 o2.2, w64 (x := D.nm) (by omega) (by omega)]
 exact ⟨_, _, hf, ⟨hz.rg, hz.rm, rfl, rfl, rfl, rfl⟩⟩
def rowZ : Nat → Int → Int
 | 0, _ => 0
 | n + 1, a => qQq a (rowZ n a)
theorem rd_rowN (a : Int) : ∀ (n k : Nat), k < n → rdZ (rowZ n a) k = a
 | 0, k, h => by omega
 | n + 1, 0, _ => by rw [rowZ]; exact qQy _ _
 | n + 1, k + 1, h => by
  rw [rowZ, qQe _ _ (by omega)]
  have := rd_rowN a n k (by omega)
  rw [show ((k + 1 : Nat) : Int) - 1 = k by omega]
  exact this
theorem rd_row (a : Int) (n : Nat) (j : Int) (h0 : 0 ≤ j) (h1 : j < n) : rdZ (rowZ n a) j = a := by
 have := rd_rowN a n j.toNat (by omega)
 rwa [show ((j.toNat : Nat) : Int) = j by omega] at this
theorem frg_at : ∀ (n k : Nat), k < n → rdZ (frgZ n) k = mayZ 0 1
 | 0, k, h => by omega
 | n + 1, 0, _ => by rw [frgZ]; exact qQy _ _
 | n + 1, k + 1, h => by
  rw [frgZ, qQe _ _ (by omega)]
  have := frg_at n k (by omega)
  rw [show ((k + 1 : Nat) : Int) - 1 = k by omega]
  exact this
theorem frm_at (cD cS : Int) : ∀ (n k : Nat), k < n → rdZ (frmF cD cS n) k = if rdZ cS k ≠ 0 then mayZ 0 0 else mayZ (IntKind.wrap .i32 (rdZ cD k)) 1
 | 0, k, h => by omega
 | n + 1, k, h => by
  rw [frmF, qZk, Int.toNat_natCast, Int.toNat_natCast]
  by_cases e : k = n
  ·rw [if_pos e, e]
  ·rw [if_neg e]; exact frm_at cD cS n k (by omega)
theorem rt_nu (hx : ∀ j : Int, 0 ≤ j → j < 32 → IntKind.wrap .i32 (rdZ rx j) = 0) (hk : ∀ j : Int, 0 ≤ j → j < 32 → rdZ rk j ≠ 0)
  (hm : ∀ j : Int, 0 ≤ j → j < nr → (rdZ cS j ≠ 0 → IntKind.wrap .i32 (rdZ rm j) = 0 ∧ rdZ hv j = 0) ∧ (rdZ cS j = 0 → IntKind.wrap .i32 (rdZ rm j) = IntKind.wrap .i32 (rdZ cD j) ∧ rdZ hv j ≠ 0)) : Rt cK nc nr cD cS 0 rx rk rm hv 0 0 0 0 := by
 refine ⟨_, _, ft_nu rfl, ⟨fun j j0 j1 => ?_, fun j j0 j1 => ?_, rfl, rfl, rfl, rfl⟩⟩
 ·have h := frg_at 32 j.toNat (by omega)
  rw [show ((j.toNat : Nat) : Int) = j by omega] at h
  obtain ⟨m0, m1⟩ := may_rd 0 1
  show Zp (rdZ (frgZ 32) j) (rdZ rx j) (rdZ rk j)
  unfold Zp
  rw [h, m0, m1, hx j j0 j1]
  exact ⟨rfl, ⟨fun _ => hk j j0 j1, fun _ => by decide⟩, fun _ => rfl⟩
 ·have h := frm_at cD cS nr.toNat j.toNat (by omega)
  rw [show ((j.toNat : Nat) : Int) = j by omega] at h
  show Zp (rdZ (frmF cD cS nr.toNat) j) (rdZ rm j) (rdZ hv j)
  unfold Zp
  rw [h]
  obtain ⟨g1, g2⟩ := hm j j0 j1
  by_cases e : rdZ cS j = 0
  ·obtain ⟨m0, m1⟩ := may_rd (IntKind.wrap .i32 (rdZ cD j)) 1
   obtain ⟨a1, a2⟩ := g2 e
   rw [if_neg (fun f => f e), m0, m1, a1, wi32_wrap]
   exact ⟨rfl, ⟨fun _ => a2, fun _ => by decide⟩, fun f => absurd f a2⟩
  ·obtain ⟨m0, m1⟩ := may_rd 0 0
   obtain ⟨a1, a2⟩ := g1 e
   rw [if_pos e, m0, m1, a1, a2]
   exact ⟨by decide, Iff.rfl, fun _ => rfl⟩
theorem ram_more {cD cS i rm hv x : Int} (h : ∀ j : Int, 0 ≤ j → j < i → (rdZ cS j ≠ 0 → IntKind.wrap .i32 (rdZ rm j) = 0 ∧ rdZ hv j = 0) ∧ (rdZ cS j = 0 → IntKind.wrap .i32 (rdZ rm j) = IntKind.wrap .i32 (rdZ cD j) ∧ rdZ hv j ≠ 0))
  (h0 : 0 ≤ i) (hx : (rdZ cS i ≠ 0 → x = 0) ∧ (rdZ cS i = 0 → x = IntKind.wrap .i32 (rdZ cD i))) :
  ∀ j : Int, 0 ≤ j → j < i + 1 → (rdZ cS j ≠ 0 → IntKind.wrap .i32 (rdZ (updZ rm i x) j) = 0 ∧ rdZ (updZ hv i (qQz (rdZ cS i == 0))) j = 0) ∧ (rdZ cS j = 0 → IntKind.wrap .i32 (rdZ (updZ rm i x) j) = IntKind.wrap .i32 (rdZ cD j) ∧ rdZ (updZ hv i (qQz (rdZ cS i == 0))) j ≠ 0) := by
 intro j j0 j1
 rw [qZk, qZk]
 by_cases e : j = i
 ·subst e
  rw [if_pos rfl, if_pos rfl]
  refine ⟨fun g => ⟨?_, ?_⟩, fun g => ⟨?_, ?_⟩⟩
  ·rw [hx.1 g]; decide
  ·simp [qQz, g]
  ·rw [hx.2 g, wi32_wrap]
  ·simp [qQz, g]
 ·have : ¬ j.toNat = i.toNat := by omega
  rw [if_neg this, if_neg this]
  exact h j j0 (by omega)
end
end Go.Eng
end
