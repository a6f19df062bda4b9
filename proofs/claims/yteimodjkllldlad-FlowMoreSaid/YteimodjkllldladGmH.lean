/-
  Parts of the engine, a program's symbolic run, proved sound; and of plain laws.
-/
import Derived.Test.YteimodjkllldladGmT
import Derived.Test.YteimodjkllldladGmP
set_option linter.unusedVariables false
set_option linter.unusedSimpArgs false

/-!  -/
noncomputable section
namespace Go.Eng
theorem nodup_len : ∀ (d l : List Int), d.Nodup → (∀ x ∈ d, x ∈ l) → d.length ≤ l.length
 | [], _, _, _ => Nat.zero_le _
 | x :: d, l, hd, h => by
  obtain ⟨h1, h2⟩ := List.nodup_cons.1 hd
  have hx : x ∈ l := h x List.mem_cons_self
  have := nodup_len d (l.erase x) h2 fun y hy => (List.mem_erase_of_ne (fun e => h1 (by rw [← e]; exact hy))).2 (h y (List.mem_cons_of_mem _ hy))
  rw [List.length_erase_of_mem hx] at this
  have hp : 0 < l.length := List.length_pos_of_mem hx
  simp only [List.length_cons]; omega
theorem dup_short : ∀ l : List Int, ¬ l.Nodup → ∃ m : List Int, m.length < l.length ∧ ∀ x ∈ l, x ∈ m
 | [], h => absurd List.nodup_nil h
 | a :: t, h => by
  by_cases ha : a ∈ t
  ·exact ⟨t, by simp, fun x hx => (List.mem_cons.1 hx).elim (fun e => e ▸ ha) id⟩
  ·obtain ⟨m, h1, h2⟩ := dup_short t fun hn => h (List.nodup_cons.2 ⟨ha, hn⟩)
   exact ⟨a :: m, by simpa using h1, fun x hx => (List.mem_cons.1 hx).elim (fun e => e ▸ List.mem_cons_self) fun hx => List.mem_cons_of_mem _ (h2 x hx)⟩
theorem len_nodup {d l : List Int} (hd : d.Nodup) (h : ∀ x, x ∈ d ↔ x ∈ l) : d.length = l.length ↔ l.Nodup := by
 constructor
 ·intro e
  refine Classical.byContradiction fun hn => ?_
  obtain ⟨m, h1, h2⟩ := dup_short l hn
  have := nodup_len d m hd fun x hx => h2 x ((h x).1 hx)
  omega
 ·intro hl
  have h1 := nodup_len d l hd fun x hx => (h x).1 hx
  have h2 := nodup_len l d hl fun x hx => (h x).2 hx
  omega
theorem rowL_nodup {c n : Int} : (rowL c n).Nodup ↔ ¬ twP c n := by
 unfold rowL twP
 rw [List.nodup_iff_pairwise_ne, List.pairwise_map]
 constructor
 ·rintro h ⟨i, k, h1, h2, h3⟩
  rw [List.pairwise_iff_getElem] at h
  have := h k i (by simp; omega) (by simp; omega) h1
  simp only [List.getElem_range] at this
  exact this h3.symm
 ·intro h
  rw [List.pairwise_iff_getElem]
  intro i j hi hj hij
  simp only [List.getElem_range]
  simp only [List.length_range] at hi hj
  exact fun e => h ⟨j, i, hij, by omega, e.symm⟩
theorem rowL_bd {c n x : Int} (h : x ∈ rowL c n) : -9223372036854775808 ≤ x ∧ x ≤ 9223372036854775807 := by
 unfold rowL at h
 obtain ⟨i, _, rfl⟩ := List.mem_map.1 h
 exact wrap_bd .i64 _
theorem comp_twice {q c n : Int} (hn : 0 ≤ n) (h : rowL q n = rowL c n) : compN (sortC q n) n = n ↔ ¬ twP c n := by
 have hl : (rowL c n).length = n.toNat := by simp [rowL]
 have h2 : rowL (sortC q n) n = sortL (rowL c n) := by
  refine rowL_rw ?_ (by rw [sortL_len, hl]; omega) fun x hx => rowL_bd (sortL_mem.1 hx)
  have : sortC q n = LZ (sortL (rowL c n)) := by unfold sortC sortL; rw [h]
  rw [this]; exact Rw.lz _
 obtain ⟨g1, g2⟩ := compact_sorted (rowL c n)
 have g3 := len_nodup (g1.imp fun h => Int.ne_of_lt h) g2
 rw [rowL_nodup, hl] at g3
 rw [← g3]
 unfold compN
 rw [h2]
 omega
theorem chk_ev (nC nD nS nI nO cI cO : Int) : chkZ nC nD (qQq nS (qQq nI (qQq nO (qQq cI (qQq cO 0))))) = chk7 nC nD nS nI nO cI cO := by
 have h := rd_chn [nS, nI, nO, cI, cO]
 have h0 := h 0; have h1 := h 1; have h2 := h 2; have h3 := h 3; have h4 := h 4
 unfold chn chn chn chn chn chn at h0 h1 h2 h3 h4
 have e0 : rdZ (qQq nS (qQq nI (qQq nO (qQq cI (qQq cO 0))))) 0 = nS := h0
 have e1 : rdZ (qQq nS (qQq nI (qQq nO (qQq cI (qQq cO 0))))) 1 = nI := h1
 have e2 : rdZ (qQq nS (qQq nI (qQq nO (qQq cI (qQq cO 0))))) 2 = nO := h2
 have e3 : rdZ (qQq nS (qQq nI (qQq nO (qQq cI (qQq cO 0))))) 3 = cI := h3
 have e4 : rdZ (qQq nS (qQq nI (qQq nO (qQq cI (qQq cO 0))))) 4 = cO := h4
 unfold chkZ
 rw [e0, e1, e2, e3, e4]
section chk
variable {nC nD nS nI nO cI cO : Int}
theorem qKz (h : 16384 < nC ∨ 2048 < nD ∨ 255 < nI ∨ 255 < nO) : 5 = chk7 nC nD nS nI nO cI cO := by
 unfold chk7; rw [if_pos h]
theorem chk_arg (hl : ¬ (16384 < nC ∨ 2048 < nD ∨ 255 < nI ∨ 255 < nO)) (h : nS ≠ nD ∨ ¬ adP cI nI nD ∨ ¬ adP cO nO nD) : 2 = chk7 nC nD nS nI nO cI cO := by
 unfold chk7; rw [if_neg hl, if_pos h]
theorem chk_twice (hl : ¬ (16384 < nC ∨ 2048 < nD ∨ 255 < nI ∨ 255 < nO)) (h1 : nS = nD) (h2 : adP cI nI nD) (h3 : adP cO nO nD) (h : twP cI nI) : 9 = chk7 nC nD nS nI nO cI cO := by
 unfold chk7; rw [if_neg hl, if_neg (fun h => h.elim (fun h => h h1) fun h => h.elim (fun h => h h2) fun h => h h3), if_pos h]
theorem chk_ok (hl : ¬ (16384 < nC ∨ 2048 < nD ∨ 255 < nI ∨ 255 < nO)) (h1 : nS = nD) (h2 : adP cI nI nD) (h3 : adP cO nO nD) (h : ¬ twP cI nI) : 0 = chk7 nC nD nS nI nO cI cO := by
 unfold chk7; rw [if_neg hl, if_neg (fun h => h.elim (fun h => h h1) fun h => h.elim (fun h => h h2) fun h => h h3), if_neg h]
end chk
theorem adZ_ne {c n m : Int} : adZ c n m ≠ 0 ↔ adP c n m := by unfold adZ; split <;> simp_all
theorem adZ_eq {c n m : Int} : adZ c n m = 0 ↔ ¬ adP c n m := by unfold adZ; split <;> simp_all
theorem ad_nil {c m : Int} : adP c 0 m := fun i hi => by omega
theorem ad_snoc {c i m : Int} (h0 : 0 ≤ i) (h : adP c i m) (h1 : 0 ≤ IntKind.wrap .i64 (rdZ c i)) (h2 : IntKind.wrap .i64 (rdZ c i) < m) : adP c (i + 1) m := by
 intro k hk
 by_cases e : (k : Int) = i
 ·unfold inR; rw [e]; exact ⟨h1, h2⟩
 ·exact h k (by omega)
theorem ad_no {c i n m : Int} (h0 : 0 ≤ i) (h1 : i < n) (h : IntKind.wrap .i64 (rdZ c i) < 0 ∨ m ≤ IntKind.wrap .i64 (rdZ c i)) : ¬ adP c n m := by
 intro g
 have := g i.toNat (by omega)
 unfold inR at this
 rw [show ((i.toNat : Nat) : Int) = i by omega] at this
 omega
theorem tw_of {c i k n : Int} (h0 : 0 ≤ k) (h1 : k < i) (h2 : i < n) (e : IntKind.wrap .i64 (rdZ c i) = IntKind.wrap .i64 (rdZ c k)) : twP c n :=
 ⟨i.toNat, k.toNat, by omega, by omega, by rw [show ((i.toNat : Nat) : Int) = i by omega, show ((k.toNat : Nat) : Int) = k by omega]; exact e⟩
theorem ad_at {c n m i : Int} (h : adP c n m) (h0 : 0 ≤ i ∧ i ≤ 4611686018427387904) (h1 : i < n) (hm : m ≤ 2048) : 0 ≤ IntKind.wrap .i64 (rdZ c i) ∧ IntKind.wrap .i64 (rdZ c i) < m ∧ IntKind.wrap .i32 (rdZ c i) = IntKind.wrap .i64 (rdZ c i) := by
 have g := h i.toNat (by omega)
 unfold inR at g
 rw [show ((i.toNat : Nat) : Int) = i by omega] at g
 refine ⟨g.1, g.2, ?_⟩
 have := wrap_wrap .i32 .i64 (rdZ c i) (by decide)
 rw [← this]
 exact qKk .i32 _ (by show (-2147483648 : Int) ≤ _; omega) (by show _ ≤ (2147483647 : Int); omega)
end Go.Eng
end
