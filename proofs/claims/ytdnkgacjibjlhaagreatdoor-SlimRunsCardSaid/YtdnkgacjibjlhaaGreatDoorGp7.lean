/-
  Parts of the engine, a program's symbolic run, proved sound; and of plain laws.
-/
import Derived.Test.YtdnkgacjibjlhaaGreatDoorGp6
import Derived.Test.YtdnkgacjibjlhaaGreatDoorGp1
set_option linter.unusedVariables false
set_option linter.unusedSimpArgs false
/-!  -/
noncomputable section
namespace Go.Eng
open Go.RowKit
theorem mok_iff {q n N : Int} : mokZ q n N = 1 ↔ ∀ i : Nat, (i : Int) < n → 0 ≤ mk q i 0 ∧ mk q i 0 < N := by
 unfold mokZ; split <;> simp_all
theorem wthL_s (c N q : Int) (k : Nat) : wthL c N q (k + 1) = wthL c N q k ++ if IntKind.wrap .u32 (rdZ c (mk q k 0)) / 67108864 = 42 then [] else [qQq (nwpZ c N (mk q k 0)) (qQq (mk q k 1) (qQq (mk q k 2) 0))] := rfl
theorem wthN_at (c N q n : Int) : wthN (qQq c (qQq N 0)) q n = (wthL c N q (min n.toNat 1000000)).length := by
 unfold wthN; rw [qQv, rd_at2]
theorem wthZ_at (c N q n : Int) : wthZ (qQq c (qQq N 0)) q n = LZ (wthL c N q (min n.toNat 1000000)) := by
 unfold wthZ; rw [qQv, rd_at2]
theorem chk_two {a b z : Int} (h : chkZ a b z = 0) : b ≤ 2048 := by
 unfold chkZ chk7 at h
 repeat' split at h
 all_goals omega
theorem wth_same {c : Int} {N : Nat} {A B : Mac} (h : Sl c N A B) (hN : N ≤ 1000) : ∀ k : Nat, (k : Int) ≤ A.nm → (wthL c N A.mq k).length = cntM c A.mq k ∧
  ∀ j, j < cntM c A.mq k → ∀ f : Int, f = 0 ∨ f = 1 ∨ f = 2 → mk B.mq j f = IntKind.wrap .i64 (rdZ ((wthL c N A.mq k).getD j 0) f) := by
 intro k
 induction k with
 | zero => exact fun _ => ⟨rfl, fun j hj => absurd hj (by show ¬j < 0; omega)⟩
 | succ k ih =>
  intro hk
  obtain ⟨i1, i2⟩ := ih (by omega)
  obtain ⟨r0, r1, r5⟩ := h.rng k (by omega)
  have hop : opA c (mk A.mq k 0) = IntKind.wrap .u32 (rdZ c (mk A.mq k 0)) / 67108864 := by
   exact dec_op (by rw [wu32]; omega) (by rw [wu32]; omega) r5
  rw [wthL_s, cntM_s, ← hop]
  by_cases g : opA c (mk A.mq k 0) = 42
  ·rw [if_pos g, if_pos g, List.append_nil]
   exact ⟨i1, i2⟩
  ·rw [if_neg g, if_neg g, List.length_append, i1]
   refine ⟨rfl, fun j hj f hf => ?_⟩
   by_cases e : j < cntM c A.mq k
   ·rw [List.getD_eq_getElem?_getD, List.getElem?_append_left (by rw [i1]; exact e), ← List.getD_eq_getElem?_getD]
    exact i2 j e f hf
   ·have e2 : j = cntM c A.mq k := by omega
    subst e2
    obtain ⟨m0, m1, m2⟩ := h.mks k (by omega) g
    rw [List.getD_eq_getElem?_getD, List.getElem?_append_right (by rw [i1]; exact Nat.le_refl _), i1, Nat.sub_self, ← List.getD_eq_getElem?_getD]
    obtain ⟨q0, q1, q2⟩ := mark_rd (nwpZ c N (mk A.mq k 0)) (mk A.mq k 1) (mk A.mq k 2)
    have hb := qKd c N
    have hnu := clt_le (c := plcZ c N) (t := mk A.mq k 0) hb.1 (by omega : plcN c N ≤ 1000000)
    rcases hf with rfl | rfl | rfl
    ·rw [List.getD_cons_zero, q0, m0]
     exact (w64 (by unfold nuA; omega) (by unfold nuA; omega)).symm
    ·rw [List.getD_cons_zero, q1, m1]
     exact (wrap_wrap _ _ _ (Nat.le_refl _)).symm
    ·rw [List.getD_cons_zero, q2, m2]
     exact (wrap_wrap _ _ _ (Nat.le_refl _)).symm
theorem sl_all {c : Int} {N : Nat} {A B : Mac} (h : Sl c N A B) (hN : N ≤ 1000) (hA : A.nm ≤ 400000) :
  mokZ A.mq A.nm N = 1 ∧ wthN (qQq c (qQq N 0)) A.mq A.nm = B.nm ∧ sameM B.mq (wthZ (qQq c (qQq N 0)) A.mq A.nm) B.nm = 1 ∧ B.nm ≤ A.nm ∧ 0 ≤ B.nm := by
 have h0 := h.nmA
 obtain ⟨w1, w2⟩ := wth_same h hN A.nm.toNat (by omega)
 have hB := h.nmB
 have hle := cntM_le c A.mq A.nm.toNat
 have em : min A.nm.toNat 1000000 = A.nm.toNat := by omega
 refine ⟨mok_iff.2 fun i hi => ⟨(h.rng i hi).1, (h.rng i hi).2.1⟩, ?_, ?_, by omega, by omega⟩
 ·rw [wthN_at, em, w1, hB]
 ·rw [wthZ_at, em]
  unfold sameM
  rw [if_pos]
  intro i hi
  have hi' : i < cntM c A.mq A.nm.toNat := by omega
  have hrd : rdZ (LZ (wthL c N A.mq A.nm.toNat)) i = (wthL c N A.mq A.nm.toNat).getD i 0 := Rw.lz _ i (by rw [w1]; exact hi')
  unfold mk at w2 ⊢
  rw [hrd]
  exact ⟨w2 i hi' 0 (.inl rfl), w2 i hi' 1 (.inr (.inl rfl)), w2 i hi' 2 (.inr (.inr rfl))⟩
end Go.Eng
end
/-!  -/
noncomputable section
namespace Go.Eng
theorem nodup_len : ∀ (d l : List Int), d.Nodup → (∀ x ∈ d, x ∈ l) → d.length ≤ l.length
 | [], _, _, _ => Nat.zero_le _
 | x :: d, l, hd, h => by
  obtain ⟨h1, h2⟩ := List.nodup_cons.1 hd
  have hx : x ∈ l := h x List.mem_cons_self
  have := nodup_len d (l.erase x) h2 fun y hy => (List.mem_erase_of_ne (fun e => h1 (by rw [← e]; exact hy))).2 (h y (List.mem_cons_of_mem _ hy))
  rw [List.length_erase_of_mem hx] at this
  have hp : 0 < l.length := List.length_pos_of_mem hx
  simp only [List.length_cons]; omega
theorem dup_short : ∀ l : List Int, ¬ l.Nodup → ∃ m : List Int, m.length < l.length ∧ ∀ x ∈ l, x ∈ m
 | [], h => absurd List.nodup_nil h
 | a :: t, h => by
  by_cases ha : a ∈ t
  ·exact ⟨t, by simp, fun x hx => (List.mem_cons.1 hx).elim (fun e => e ▸ ha) id⟩
  ·obtain ⟨m, h1, h2⟩ := dup_short t fun hn => h (List.nodup_cons.2 ⟨ha, hn⟩)
   exact ⟨a :: m, by simpa using h1, fun x hx => (List.mem_cons.1 hx).elim (fun e => e ▸ List.mem_cons_self) fun hx => List.mem_cons_of_mem _ (h2 x hx)⟩
theorem len_nodup {d l : List Int} (hd : d.Nodup) (h : ∀ x, x ∈ d ↔ x ∈ l) : d.length = l.length ↔ l.Nodup := by
 constructor
 ·intro e
  refine Classical.byContradiction fun hn => ?_
  obtain ⟨m, h1, h2⟩ := dup_short l hn
  have := nodup_len d m hd fun x hx => h2 x ((h x).1 hx)
  omega
 ·intro hl
  have h1 := nodup_len d l hd fun x hx => (h x).1 hx
  have h2 := nodup_len l d hl fun x hx => (h x).2 hx
  omega
theorem rowL_nodup {c n : Int} : (rowL c n).Nodup ↔ ¬ twP c n := by
 unfold rowL twP
 rw [List.nodup_iff_pairwise_ne, List.pairwise_map]
 constructor
 ·rintro h ⟨i, k, h1, h2, h3⟩
  rw [List.pairwise_iff_getElem] at h
  have := h k i (by simp; omega) (by simp; omega) h1
  simp only [List.getElem_range] at this
  exact this h3.symm
 ·intro h
  rw [List.pairwise_iff_getElem]
  intro i j hi hj hij
  simp only [List.getElem_range]
  simp only [List.length_range] at hi hj
  exact fun e => h ⟨j, i, hij, by omega, e.symm⟩
theorem rowL_bd {c n x : Int} (h : x ∈ rowL c n) : -9223372036854775808 ≤ x ∧ x ≤ 9223372036854775807 := by
 unfold rowL at h
 obtain ⟨i, _, rfl⟩ := List.mem_map.1 h
 exact qXg .i64 _
theorem comp_twice {q c n : Int} (hn : 0 ≤ n) (h : rowL q n = rowL c n) : compN (sortC q n) n = n ↔ ¬ twP c n := by
 have hl : (rowL c n).length = n.toNat := by simp [rowL]
 have h2 : rowL (sortC q n) n = sortL (rowL c n) := by
  refine rowL_rw ?_ (by rw [sortL_len, hl]; omega) fun x hx => rowL_bd (sortL_mem.1 hx)
  have : sortC q n = LZ (sortL (rowL c n)) := by unfold sortC sortL; rw [h]
  rw [this]; exact Rw.lz _
 obtain ⟨g1, g2⟩ := compact_sorted (rowL c n)
 have g3 := len_nodup (g1.imp fun h => Int.ne_of_lt h) g2
 rw [rowL_nodup, hl] at g3
 rw [← g3]
 unfold compN
 rw [h2]
 omega
theorem chk_ev (nC nD nS nI nO cI cO : Int) : chkZ nC nD (qQq nS (qQq nI (qQq nO (qQq cI (qQq cO 0))))) = chk7 nC nD nS nI nO cI cO := by
 have h := rd_chn [nS, nI, nO, cI, cO]
 have h0 := h 0; have h1 := h 1; have h2 := h 2; have h3 := h 3; have h4 := h 4
 unfold chn chn chn chn chn chn at h0 h1 h2 h3 h4
 have e0 : rdZ (qQq nS (qQq nI (qQq nO (qQq cI (qQq cO 0))))) 0 = nS := h0
 have e1 : rdZ (qQq nS (qQq nI (qQq nO (qQq cI (qQq cO 0))))) 1 = nI := h1
 have e2 : rdZ (qQq nS (qQq nI (qQq nO (qQq cI (qQq cO 0))))) 2 = nO := h2
 have e3 : rdZ (qQq nS (qQq nI (qQq nO (qQq cI (qQq cO 0))))) 3 = cI := h3
 have e4 : rdZ (qQq nS (qQq nI (qQq nO (qQq cI (qQq cO 0))))) 4 = cO := h4
 unfold chkZ
 rw [e0, e1, e2, e3, e4]
section chk
variable {nC nD nS nI nO cI cO : Int}
theorem chk_long (h : 16384 < nC ∨ 2048 < nD ∨ 255 < nI ∨ 255 < nO) : 5 = chk7 nC nD nS nI nO cI cO := by
 unfold chk7; rw [if_pos h]
theorem chk_arg (hl : ¬ (16384 < nC ∨ 2048 < nD ∨ 255 < nI ∨ 255 < nO)) (h : nS ≠ nD ∨ ¬ adP cI nI nD ∨ ¬ adP cO nO nD) : 2 = chk7 nC nD nS nI nO cI cO := by
 unfold chk7; rw [if_neg hl, if_pos h]
theorem chk_twice (hl : ¬ (16384 < nC ∨ 2048 < nD ∨ 255 < nI ∨ 255 < nO)) (h1 : nS = nD) (h2 : adP cI nI nD) (h3 : adP cO nO nD) (h : twP cI nI) : 9 = chk7 nC nD nS nI nO cI cO := by
 unfold chk7; rw [if_neg hl, if_neg (fun h => h.elim (fun h => h h1) fun h => h.elim (fun h => h h2) fun h => h h3), if_pos h]
theorem chk_ok (hl : ¬ (16384 < nC ∨ 2048 < nD ∨ 255 < nI ∨ 255 < nO)) (h1 : nS = nD) (h2 : adP cI nI nD) (h3 : adP cO nO nD) (h : ¬ twP cI nI) : 0 = chk7 nC nD nS nI nO cI cO := by
 unfold chk7; rw [if_neg hl, if_neg (fun h => h.elim (fun h => h h1) fun h => h.elim (fun h => h h2) fun h => h h3), if_neg h]
end chk
theorem ad_nil {c m : Int} : adP c 0 m := fun i hi => by omega
theorem ad_snoc {c i m : Int} (h0 : 0 ≤ i) (h : adP c i m) (h1 : 0 ≤ IntKind.wrap .i64 (rdZ c i)) (h2 : IntKind.wrap .i64 (rdZ c i) < m) : adP c (i + 1) m := by
 intro k hk
 by_cases e : (k : Int) = i
 ·unfold inR; rw [e]; exact ⟨h1, h2⟩
 ·exact h k (by omega)
theorem ad_no {c i n m : Int} (h0 : 0 ≤ i) (h1 : i < n) (h : IntKind.wrap .i64 (rdZ c i) < 0 ∨ m ≤ IntKind.wrap .i64 (rdZ c i)) : ¬ adP c n m := by
 intro g
 have := g i.toNat (by omega)
 unfold inR at this
 rw [show ((i.toNat : Nat) : Int) = i by omega] at this
 omega
end Go.Eng
end
