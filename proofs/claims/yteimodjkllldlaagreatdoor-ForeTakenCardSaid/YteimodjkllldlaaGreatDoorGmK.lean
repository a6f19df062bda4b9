/-
  Parts of the engine, a program's symbolic run, proved sound; and of plain laws.
-/
import Derived.Test.YteimodjkllldlaaGreatDoorGmI
import Derived.Test.YteimodjkllldlaaGreatDoorGmJ
set_option linter.unusedVariables false
set_option linter.unusedSimpArgs false

/-!  -/
noncomputable section
namespace Go.Eng
def Fm.ok (m : Fm) : Prop := I64 m.pc ∧ I64 m.st ∧ 0 ≤ m.nm
theorem fok_goes {m : Fm} (h : m.ok) {next : Int} (hn : I64 next) (addr cost : Int) : (m.goes next addr cost).ok := ⟨hn, h.2.1, by show 0 ≤ m.nm + 1; have := h.2.2; omega⟩
theorem fok_put {m : Fm} (h : m.ok) (i w : Int) : (m.put i w).ok := by unfold Fm.put; split; exact h; exact h
theorem put_nm (m : Fm) (i w : Int) : (m.put i w).nm = m.nm := by unfold Fm.put; split <;> rfl
theorem fok_st {m : Fm} (h : m.ok) {s : Int} (hs : I64 s) : Fm.ok { m with st := s } := ⟨h.1, hs, h.2.2⟩
theorem i64_lit {x : Int} (h : 0 ≤ x) (g : x ≤ 65535) : I64 x := by unfold I64; omega
def Fs (m a : Fm) : Prop := a.ok ∧ a.nm ≤ m.nm + 1
theorem qXn {m : Fm} {c : Prop} [Decidable c] {A B : Fm} (h1 : c → Fs m A) (h2 : ¬ c → Fs m B) : Fs m (if c then A else B) := by
 by_cases h : c
 ·rw [if_pos h]; exact h1 h
 ·rw [if_neg h]; exact h2 h
theorem fs_does {m : Fm} (h : m.ok) {nr op d a b n : Int} (hn : I64 n) : Fs m (m.does nr op d a b n) := by
 have hg : ∀ (m' : Fm) (next addr cost : Int), m'.ok → m'.nm = m.nm → I64 next → Fs m (m'.goes next addr cost) := fun m' next addr cost h1 h2 h3 => ⟨fok_goes h1 h3 _ _, by show m'.nm + 1 ≤ m.nm + 1; omega⟩
 have hs : ∀ s : Int, I64 s → Fs m { m with st := s } := fun s h1 => ⟨fok_st h h1, by show m.nm ≤ _; omega⟩
 have hp : ∀ (i w next addr cost : Int), I64 next → Fs m ((m.put i w).goes next addr cost) := fun i w next addr cost h3 => hg _ _ _ _ (fok_put h _ _) (put_nm _ _ _) h3
 have ho : ∀ (i w cost : Int), Fs m ((m.put i w).on cost) := fun i w cost => hg _ _ _ _ (fok_put h _ _) (put_nm _ _ _) (i64_in _)
 have hb : ∀ (p : Prop) [Decidable p], Fs m (m.branch n p) := fun p _ => qXn (fun _ => hg _ _ _ _ h rfl hn) fun _ => hg _ _ _ _ h rfl (i64_in _)
 unfold Fm.does
 refine qXn (fun _ => qXn (fun _ => hs _ (i64_lit (by omega) (by omega))) fun _ => ho _ _ _) fun _ => ?_
 refine qXn (fun _ => ho _ _ _) fun _ => ?_
 refine qXn (fun _ => ho _ _ _) fun _ => ?_
 refine qXn (fun _ => ho _ _ _) fun _ => ?_
 refine qXn (fun _ => ?_) fun _ => ?_
 ·exact qXn (fun _ => hs _ (i64_lit (by omega) (by omega))) fun _ => qXn (fun _ => hg { m with rm := _ } _ _ _ h rfl (i64_in _)) fun _ => hp _ _ _ _ _ (i64_in _)
 refine qXn (fun _ => hb _) fun _ => ?_
 refine qXn (fun _ => hb _) fun _ => ?_
 refine qXn (fun _ => hb _) fun _ => ?_
 refine qXn (fun _ => hp _ _ _ _ _ hn) fun _ => ?_
 refine qXn (fun _ => hg _ _ _ _ h rfl hn) fun _ => ?_
 refine qXn (fun _ => hg _ _ _ _ h rfl (i32_i64 _)) fun _ => ?_
 refine qXn (fun _ => ?_) fun _ => hg _ _ _ _ h rfl (i64_in _)
 have := hg m m.pc (-1) 1 h rfl h.1
 exact ⟨fok_st this.1 (i64_lit (by omega) (by omega)), this.2⟩
theorem dec_nz {x : Int} (h : decZ (IntKind.wrap .u32 x) 0 ≠ 0) : (1 ≤ decZ (IntKind.wrap .u32 x) 0 ∧ decZ (IntKind.wrap .u32 x) 0 ≤ 43) ∧ (0 ≤ decZ (IntKind.wrap .u32 x) 1 ∧ decZ (IntKind.wrap .u32 x) 1 < 32) ∧ (0 ≤ decZ (IntKind.wrap .u32 x) 2 ∧ decZ (IntKind.wrap .u32 x) 2 < 32) ∧
  (0 ≤ decZ (IntKind.wrap .u32 x) 3 ∧ decZ (IntKind.wrap .u32 x) 3 < 32) ∧ (-32768 ≤ decZ (IntKind.wrap .u32 x) 4 ∧ decZ (IntKind.wrap .u32 x) 4 ≤ 65535) := by
 refine dec_in x ?_
 by_cases e : decZ (IntKind.wrap .u32 x) 5 = 0
 ·exact e
 ·exfalso
  refine h ?_
  unfold decZ at e ⊢
  by_cases hP : decP (IntKind.wrap .u32 x % 4294967296)
  ·simp [hP] at e
  ·simp [hP]
theorem ins_at (w : Int) : ∀ (n k : Nat), k < n → rdZ (insF w n) k = insR (IntKind.wrap .u32 (rdZ w k))
 | 0, k, h => by omega
 | n + 1, k, h => by
  rw [insF, qQp, Int.toNat_natCast, Int.toNat_natCast]
  by_cases e : k = n
  ·rw [if_pos e, e]
  ·rw [if_neg e]; exact ins_at w n k (by omega)
theorem ins_rd {w nc p : Int} (h0 : 0 ≤ p) (h1 : p < nc) : rdZ (rdZ (insW w nc) p) 0 = decZ (IntKind.wrap .u32 (rdZ w p)) 0 ∧ rdZ (rdZ (insW w nc) p) 1 = decZ (IntKind.wrap .u32 (rdZ w p)) 1 ∧ rdZ (rdZ (insW w nc) p) 2 = decZ (IntKind.wrap .u32 (rdZ w p)) 2 ∧
  rdZ (rdZ (insW w nc) p) 3 = decZ (IntKind.wrap .u32 (rdZ w p)) 3 ∧ rdZ (rdZ (insW w nc) p) 4 = decZ (IntKind.wrap .u32 (rdZ w p)) 4 := by
 have := ins_at w nc.toNat p.toNat (by omega)
 rw [show ((p.toNat : Nat) : Int) = p by omega] at this
 unfold insW
 rw [this]
 unfold insR
 have h := qXa [decZ (IntKind.wrap .u32 (rdZ w p)) 0, decZ (IntKind.wrap .u32 (rdZ w p)) 1, decZ (IntKind.wrap .u32 (rdZ w p)) 2, decZ (IntKind.wrap .u32 (rdZ w p)) 3, decZ (IntKind.wrap .u32 (rdZ w p)) 4]
 exact ⟨h 0, h 1, h 2, h 3, h 4⟩
section
variable {w nc nr : Int} {m0 : Fm}
theorem tell_stay {i : Nat} (h : (Fm.tell w nc nr m0 i).2 ≠ 0 ∨ (Fm.tell w nc nr m0 i).1.st ≠ 0) : ∀ d, Fm.tell w nc nr m0 (i + d) = Fm.tell w nc nr m0 i
 | 0 => rfl
 | d + 1 => by
  rw [← Nat.add_assoc]
  show Fm.on1 w nc nr (Fm.tell w nc nr m0 (i + d)) = _
  rw [tell_stay h d]
  unfold Fm.on1
  exact if_pos h
theorem qKq {i : Nat} {m m' : Fm} {e : Int} (h : Fm.tell w nc nr m0 i = (m, 0)) (h2 : Fm.on1 w nc nr (m, 0) = (m', e)) : Fm.tell w nc nr m0 (i + 1) = (m', e) := by
 show Fm.on1 w nc nr (Fm.tell w nc nr m0 i) = _
 rw [h]; exact h2
theorem on1_fetch {m : Fm} (h : m.st = 0) (g : m.pc < 0 ∨ nc ≤ m.pc) : Fm.on1 w nc nr (m, 0) = ({ m with st := 2 }, 0) := by
 unfold Fm.on1
 exact (if_neg (by simp [h])).trans (if_pos g)
theorem on1_form {m : Fm} (h : m.st = 0) (g0 : 0 ≤ m.pc) (g1 : m.pc < nc) (g : decZ (IntKind.wrap .u32 (rdZ w m.pc)) 0 = 0) : Fm.on1 w nc nr (m, 0) = ({ m with st := 3 }, 0) := by
 unfold Fm.on1
 exact (if_neg (by simp [h])).trans ((if_neg (by show ¬ (m.pc < 0 ∨ nc ≤ m.pc); omega)).trans (if_pos g))
theorem on1_stop {m : Fm} (h : m.st = 0) (g0 : 0 ≤ m.pc) (g1 : m.pc < nc) (g : decZ (IntKind.wrap .u32 (rdZ w m.pc)) 0 ≠ 0)
  (t : ftoZ (decZ (IntKind.wrap .u32 (rdZ w m.pc)) 0) (decZ (IntKind.wrap .u32 (rdZ w m.pc)) 1) (qQq (decZ (IntKind.wrap .u32 (rdZ w m.pc)) 2) (qQq (decZ (IntKind.wrap .u32 (rdZ w m.pc)) 3) (qQq m.rg 0))) = 0) : Fm.on1 w nc nr (m, 0) = (m, 12) := by
 unfold Fm.on1
 exact (if_neg (by simp [h])).trans ((if_neg (by show ¬ (m.pc < 0 ∨ nc ≤ m.pc); omega)).trans ((if_neg g).trans (if_pos t)))
theorem on1_does {m : Fm} (h : m.st = 0) (g0 : 0 ≤ m.pc) (g1 : m.pc < nc) (g : decZ (IntKind.wrap .u32 (rdZ w m.pc)) 0 ≠ 0)
  (t : ftoZ (decZ (IntKind.wrap .u32 (rdZ w m.pc)) 0) (decZ (IntKind.wrap .u32 (rdZ w m.pc)) 1) (qQq (decZ (IntKind.wrap .u32 (rdZ w m.pc)) 2) (qQq (decZ (IntKind.wrap .u32 (rdZ w m.pc)) 3) (qQq m.rg 0))) ≠ 0) :
  Fm.on1 w nc nr (m, 0) = (m.does nr (decZ (IntKind.wrap .u32 (rdZ w m.pc)) 0) (decZ (IntKind.wrap .u32 (rdZ w m.pc)) 1) (decZ (IntKind.wrap .u32 (rdZ w m.pc)) 2) (decZ (IntKind.wrap .u32 (rdZ w m.pc)) 3) (decZ (IntKind.wrap .u32 (rdZ w m.pc)) 4), 0) := by
 unfold Fm.on1
 exact (if_neg (by simp [h])).trans ((if_neg (by show ¬ (m.pc < 0 ∨ nc ≤ m.pc); omega)).trans ((if_neg g).trans (if_neg t)))
end
def Ft (cK : Int) (nc nr : Int) (m0 : Fm) (i rg rm pc st mq nm : Int) : Prop := 0 ≤ i ∧ Fm.tell cK nc nr m0 i.toNat = (⟨rg, rm, pc, st, mq, nm⟩, 0) ∧ Fm.ok ⟨rg, rm, pc, st, mq, nm⟩ ∧ nm ≤ i
section
variable {cK nc nr i rg rm pc st mq nm fuel cD cS T : Int} {m0 : Fm}
theorem ft_nu {x y : Int} (hx : x = frgZ 32) : Ft cK nc nr ⟨frgZ 32, y, 0, 0, 0, 0⟩ 0 x y 0 0 0 0 := by
 subst hx
 have h0 : I64 0 := i64_lit (Int.le_refl _) (by decide)
 exact ⟨Int.le_refl _, rfl, ⟨h0, h0, Int.le_refl _⟩, Int.le_refl _⟩
theorem ft_nm (h : Ft cK nc nr m0 i rg rm pc st mq nm) : 0 ≤ nm ∧ nm ≤ i := ⟨h.2.2.1.2.2, h.2.2.2⟩
theorem ft_fetch (h : Ft cK nc nr m0 i rg rm pc st mq nm) (hs : st = 0) (g : pc < 0 ∨ nc ≤ pc) : Ft cK nc nr m0 (i + 1) rg rm pc 2 mq nm := by
 obtain ⟨h0, h1, h2, h3⟩ := h
 refine ⟨by omega, ?_, fok_st h2 (i64_lit (by omega) (by omega)), by omega⟩
 rw [show (i + 1).toNat = i.toNat + 1 by omega]
 exact qKq h1 (on1_fetch hs g)
theorem ft_form (h : Ft cK nc nr m0 i rg rm pc st mq nm) (hs : st = 0) (g0 : 0 ≤ pc) (g1 : pc < nc) (g : decZ (IntKind.wrap .u32 (rdZ cK pc)) 0 = 0) : Ft cK nc nr m0 (i + 1) rg rm pc 3 mq nm := by
 obtain ⟨h0, h1, h2, h3⟩ := h
 refine ⟨by omega, ?_, fok_st h2 (i64_lit (by omega) (by omega)), by omega⟩
 rw [show (i + 1).toNat = i.toNat + 1 by omega]
 exact qKq h1 (on1_form hs g0 g1 g)
theorem ft_does {op d a b n Z : Int} (h : Ft cK nc nr m0 i rg rm pc st mq nm) (hs : st = 0) (g0 : 0 ≤ pc) (g1 : pc < nc) (e0 : op = decZ (IntKind.wrap .u32 (rdZ cK pc)) 0) (e1 : d = decZ (IntKind.wrap .u32 (rdZ cK pc)) 1) (e2 : a = decZ (IntKind.wrap .u32 (rdZ cK pc)) 2) (e3 : b = decZ (IntKind.wrap .u32 (rdZ cK pc)) 3)
  (e4 : n = decZ (IntKind.wrap .u32 (rdZ cK pc)) 4) (g : op ≠ 0) (t : ftoZ op d (qQq a (qQq b (qQq rg 0))) ≠ 0) (hi : i ≤ 1000000) (hZ : Z = fdoZ op d (qQq a (qQq b (qQq n (qQq nr (qQq rg (qQq rm (qQq pc (qQq st (qQq mq (qQq nm 0))))))))))) :
  Ft cK nc nr m0 (i + 1) (rdZ Z 0) (rdZ Z 1) (IntKind.wrap .i64 (rdZ Z 2)) (IntKind.wrap .i64 (rdZ Z 3)) (rdZ Z 4) (IntKind.wrap .i64 (rdZ Z 5)) := by
 subst e0 e1 e2 e3 e4
 obtain ⟨h0, h1, h2, h3⟩ := h
 have hz := decZ_bd (IntKind.wrap .u32 (rdZ cK pc)) 4
 have hf := fs_does (nr := nr) (op := decZ (IntKind.wrap .u32 (rdZ cK pc)) 0) (d := decZ (IntKind.wrap .u32 (rdZ cK pc)) 1) (a := decZ (IntKind.wrap .u32 (rdZ cK pc)) 2) (b := decZ (IntKind.wrap .u32 (rdZ cK pc)) 3) h2 (n := decZ (IntKind.wrap .u32 (rdZ cK pc)) 4) (by unfold I64; omega)
 have hx := qKq h1 (on1_does hs g0 g1 g t)
 rw [fdo_ev] at hZ
 simp only at hx
 generalize Fm.does ⟨rg, rm, pc, st, mq, nm⟩ nr _ _ _ _ _ = D at hf hx hZ
 obtain ⟨r0, r1, r2, r3, r4, r5⟩ := fcode_rd D
 rw [← hZ] at r0 r1 r2 r3 r4 r5
 obtain ⟨⟨o1, o2, o3⟩, o4⟩ := hf
 simp only at o4
 rw [r0, r1, r2, r3, r4, r5, w64 o1.1 o1.2, w64 o2.1 o2.2, w64 (x := D.nm) (by omega) (by omega)]
 refine ⟨by omega, ?_, ⟨o1, o2, o3⟩, by omega⟩
 rw [show (i + 1).toNat = i.toNat + 1 by omega]
 exact hx
theorem ftl_rd (hT : T = ftlZ cK nc (qQq nr (qQq fuel (qQq cD (qQq cS 0))))) {m : Fm} {e : Int} (h : Fm.tell cK nc nr ⟨frgZ 32, frmZ cD cS nr, 0, 0, 0, 0⟩ fuel.toNat = (m, e)) : rdZ T 0 = m.mq ∧ rdZ T 1 = m.nm ∧ rdZ T 2 = m.st ∧ rdZ T 3 = m.pc ∧ rdZ T 4 = e := by
 have hc := qXa [nr, fuel, cD, cS]
 have q0 : rdZ (qQq nr (qQq fuel (qQq cD (qQq cS 0)))) 0 = nr := hc 0
 have q1 : rdZ (qQq nr (qQq fuel (qQq cD (qQq cS 0)))) 1 = fuel := hc 1
 have q2 : rdZ (qQq nr (qQq fuel (qQq cD (qQq cS 0)))) 2 = cD := hc 2
 have q3 : rdZ (qQq nr (qQq fuel (qQq cD (qQq cS 0)))) 3 = cS := hc 3
 unfold ftlZ at hT
 rw [q0, q1, q2, q3, h] at hT
 subst hT
 simp only [rdZ_LZ]
 exact ⟨rfl, rfl, rfl, rfl, rfl⟩
theorem ft_end (h : Ft cK nc nr ⟨frgZ 32, frmZ cD cS nr, 0, 0, 0, 0⟩ i rg rm pc st mq nm) (he : st ≠ 0 ∨ fuel.toNat ≤ i.toNat) (hif : i ≤ fuel ∨ i = 0) (hi : i ≤ 1000000) (hT : T = ftlZ cK nc (qQq nr (qQq fuel (qQq cD (qQq cS 0))))) :
  nm = IntKind.wrap .i64 (rdZ T 1) ∧ mq = rdZ T 0 ∧ st = IntKind.wrap .i64 (rdZ T 2) ∧ pc = IntKind.wrap .i64 (rdZ T 3) ∧ 0 = IntKind.wrap .i64 (rdZ T 4) := by
 obtain ⟨h0, h1, h2, h3⟩ := h
 have hx : Fm.tell cK nc nr ⟨frgZ 32, frmZ cD cS nr, 0, 0, 0, 0⟩ fuel.toNat = (⟨rg, rm, pc, st, mq, nm⟩, 0) := by
  rcases Nat.le_total fuel.toNat i.toNat with g | g
  ·rw [show fuel.toNat = i.toNat by omega]; exact h1
  ·by_cases e : fuel.toNat = i.toNat
   ·rw [e]; exact h1
   ·have hs : st ≠ 0 := by rcases he with he | he; exact he; omega
    have := tell_stay (w := cK) (nc := nc) (nr := nr) (m0 := ⟨frgZ 32, frmZ cD cS nr, 0, 0, 0, 0⟩) (i := i.toNat) (.inr (by rw [h1]; exact hs)) (fuel.toNat - i.toNat)
    rw [show i.toNat + (fuel.toNat - i.toNat) = fuel.toNat by omega] at this
    rw [this]; exact h1
 obtain ⟨r0, r1, r2, r3, r4⟩ := ftl_rd hT hx
 simp only at r0 r1 r2 r3 r4
 rw [r0, r1, r2, r3, r4]
 obtain ⟨o1, o2, o3⟩ := h2
 have o3 : 0 ≤ nm := o3
 exact ⟨(w64 (x := nm) (by omega) (by omega)).symm, rfl, (w64 o2.1 o2.2).symm, (w64 o1.1 o1.2).symm, rfl⟩
theorem ft_stop {op d a b : Int} (h : Ft cK nc nr ⟨frgZ 32, frmZ cD cS nr, 0, 0, 0, 0⟩ i rg rm pc st mq nm) (hs : st = 0) (g0 : 0 ≤ pc) (g1 : pc < nc) (e0 : op = decZ (IntKind.wrap .u32 (rdZ cK pc)) 0) (e1 : d = decZ (IntKind.wrap .u32 (rdZ cK pc)) 1) (e2 : a = decZ (IntKind.wrap .u32 (rdZ cK pc)) 2) (e3 : b = decZ (IntKind.wrap .u32 (rdZ cK pc)) 3)
  (g : op ≠ 0) (t : ftoZ op d (qQq a (qQq b (qQq rg 0))) = 0) (hif : i < fuel) (hi : i ≤ 1000000) (hT : T = ftlZ cK nc (qQq nr (qQq fuel (qQq cD (qQq cS 0))))) :
  nm = IntKind.wrap .i64 (rdZ T 1) ∧ mq = rdZ T 0 ∧ st = IntKind.wrap .i64 (rdZ T 2) ∧ pc = IntKind.wrap .i64 (rdZ T 3) ∧ 12 = IntKind.wrap .i64 (rdZ T 4) := by
 subst e0 e1 e2 e3
 obtain ⟨h0, h1, h2, h3⟩ := h
 have hy := qKq h1 (on1_stop hs g0 g1 g t)
 have hx := tell_stay (w := cK) (nc := nc) (nr := nr) (m0 := ⟨frgZ 32, frmZ cD cS nr, 0, 0, 0, 0⟩) (i := i.toNat + 1) (.inl (by rw [hy]; show (12 : Int) ≠ 0; decide)) (fuel.toNat - i.toNat - 1)
 rw [show i.toNat + 1 + (fuel.toNat - i.toNat - 1) = fuel.toNat by omega, hy] at hx
 obtain ⟨r0, r1, r2, r3, r4⟩ := ftl_rd hT hx
 simp only at r0 r1 r2 r3 r4
 rw [r0, r1, r2, r3, r4]
 obtain ⟨o1, o2, o3⟩ := h2
 have o3 : 0 ≤ nm := o3
 exact ⟨(w64 (x := nm) (by omega) (by omega)).symm, rfl, (w64 o2.1 o2.2).symm, (w64 o1.1 o1.2).symm, rfl⟩
end
end Go.Eng
end
