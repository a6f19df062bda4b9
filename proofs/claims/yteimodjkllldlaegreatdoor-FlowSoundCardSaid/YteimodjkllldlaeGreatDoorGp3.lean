/-
  Parts of the engine, a program's symbolic run, proved sound; and of plain laws.
-/
import Derived.Test.YteimodjkllldlaeGreatDoorGp1
import Derived.Test.YteimodjkllldlaeGreatDoorGp2
set_option linter.unusedVariables false
set_option linter.unusedSimpArgs false
/-!  -/
noncomputable section
namespace Go.Eng
theorem nodup_len : ∀ (d l : List Int), d.Nodup → (∀ x ∈ d, x ∈ l) → d.length ≤ l.length
 | [], _, _, _ => Nat.zero_le _
 | x :: d, l, hd, h => by
  obtain ⟨h1, h2⟩ := List.nodup_cons.1 hd
  have hx : x ∈ l := h x List.mem_cons_self
  have := nodup_len d (l.erase x) h2 fun y hy => (List.mem_erase_of_ne (fun e => h1 (by rw [← e]; exact hy))).2 (h y (List.mem_cons_of_mem _ hy))
  rw [List.length_erase_of_mem hx] at this
  have hp : 0 < l.length := List.length_pos_of_mem hx
  simp only [List.length_cons]; omega
theorem dup_short : ∀ l : List Int, ¬ l.Nodup → ∃ m : List Int, m.length < l.length ∧ ∀ x ∈ l, x ∈ m
 | [], h => absurd List.nodup_nil h
 | a :: t, h => by
  by_cases ha : a ∈ t
  ·exact ⟨t, by simp, fun x hx => (List.mem_cons.1 hx).elim (fun e => e ▸ ha) id⟩
  ·obtain ⟨m, h1, h2⟩ := dup_short t fun hn => h (List.nodup_cons.2 ⟨ha, hn⟩)
   exact ⟨a :: m, by simpa using h1, fun x hx => (List.mem_cons.1 hx).elim (fun e => e ▸ List.mem_cons_self) fun hx => List.mem_cons_of_mem _ (h2 x hx)⟩
theorem len_nodup {d l : List Int} (hd : d.Nodup) (h : ∀ x, x ∈ d ↔ x ∈ l) : d.length = l.length ↔ l.Nodup := by
 constructor
 ·intro e
  refine Classical.byContradiction fun hn => ?_
  obtain ⟨m, h1, h2⟩ := dup_short l hn
  have := nodup_len d m hd fun x hx => h2 x ((h x).1 hx)
  omega
 ·intro hl
  have h1 := nodup_len d l hd fun x hx => (h x).1 hx
  have h2 := nodup_len l d hl fun x hx => (h x).2 hx
  omega
theorem rowL_nodup {c n : Int} : (rowL c n).Nodup ↔ ¬ twP c n := by
 unfold rowL twP
 rw [List.nodup_iff_pairwise_ne, List.pairwise_map]
 constructor
 ·rintro h ⟨i, k, h1, h2, h3⟩
  rw [List.pairwise_iff_getElem] at h
  have := h k i (by simp; omega) (by simp; omega) h1
  simp only [List.getElem_range] at this
  exact this h3.symm
 ·intro h
  rw [List.pairwise_iff_getElem]
  intro i j hi hj hij
  simp only [List.getElem_range]
  simp only [List.length_range] at hi hj
  exact fun e => h ⟨j, i, hij, by omega, e.symm⟩
theorem rowL_bd {c n x : Int} (h : x ∈ rowL c n) : -9223372036854775808 ≤ x ∧ x ≤ 9223372036854775807 := by
 unfold rowL at h
 obtain ⟨i, _, rfl⟩ := List.mem_map.1 h
 exact qKa .i64 _
theorem comp_twice {q c n : Int} (hn : 0 ≤ n) (h : rowL q n = rowL c n) : compN (sortC q n) n = n ↔ ¬ twP c n := by
 have hl : (rowL c n).length = n.toNat := by simp [rowL]
 have h2 : rowL (sortC q n) n = sortL (rowL c n) := by
  refine rowL_rw ?_ (by rw [sortL_len, hl]; omega) fun x hx => rowL_bd (sortL_mem.1 hx)
  have : sortC q n = LZ (sortL (rowL c n)) := by unfold sortC sortL; rw [h]
  rw [this]; exact Rw.lz _
 obtain ⟨g1, g2⟩ := compact_sorted (rowL c n)
 have g3 := len_nodup (g1.imp fun h => Int.ne_of_lt h) g2
 rw [rowL_nodup, hl] at g3
 rw [← g3]
 unfold compN
 rw [h2]
 omega
theorem chk_ev (nC nD nS nI nO cI cO : Int) : chkZ nC nD (qQq nS (qQq nI (qQq nO (qQq cI (qQq cO 0))))) = chk7 nC nD nS nI nO cI cO := by
 have h := qXt [nS, nI, nO, cI, cO]
 have h0 := h 0; have h1 := h 1; have h2 := h 2; have h3 := h 3; have h4 := h 4
 unfold chn chn chn chn chn chn at h0 h1 h2 h3 h4
 have e0 : rdZ (qQq nS (qQq nI (qQq nO (qQq cI (qQq cO 0))))) 0 = nS := h0
 have e1 : rdZ (qQq nS (qQq nI (qQq nO (qQq cI (qQq cO 0))))) 1 = nI := h1
 have e2 : rdZ (qQq nS (qQq nI (qQq nO (qQq cI (qQq cO 0))))) 2 = nO := h2
 have e3 : rdZ (qQq nS (qQq nI (qQq nO (qQq cI (qQq cO 0))))) 3 = cI := h3
 have e4 : rdZ (qQq nS (qQq nI (qQq nO (qQq cI (qQq cO 0))))) 4 = cO := h4
 unfold chkZ
 rw [e0, e1, e2, e3, e4]
section chk
variable {nC nD nS nI nO cI cO : Int}
theorem chk_long (h : 16384 < nC ∨ 2048 < nD ∨ 255 < nI ∨ 255 < nO) : 5 = chk7 nC nD nS nI nO cI cO := by
 unfold chk7; rw [if_pos h]
theorem chk_arg (hl : ¬ (16384 < nC ∨ 2048 < nD ∨ 255 < nI ∨ 255 < nO)) (h : nS ≠ nD ∨ ¬ adP cI nI nD ∨ ¬ adP cO nO nD) : 2 = chk7 nC nD nS nI nO cI cO := by
 unfold chk7; rw [if_neg hl, if_pos h]
theorem chk_twice (hl : ¬ (16384 < nC ∨ 2048 < nD ∨ 255 < nI ∨ 255 < nO)) (h1 : nS = nD) (h2 : adP cI nI nD) (h3 : adP cO nO nD) (h : twP cI nI) : 9 = chk7 nC nD nS nI nO cI cO := by
 unfold chk7; rw [if_neg hl, if_neg (fun h => h.elim (fun h => h h1) fun h => h.elim (fun h => h h2) fun h => h h3), if_pos h]
theorem chk_ok (hl : ¬ (16384 < nC ∨ 2048 < nD ∨ 255 < nI ∨ 255 < nO)) (h1 : nS = nD) (h2 : adP cI nI nD) (h3 : adP cO nO nD) (h : ¬ twP cI nI) : 0 = chk7 nC nD nS nI nO cI cO := by
 unfold chk7; rw [if_neg hl, if_neg (fun h => h.elim (fun h => h h1) fun h => h.elim (fun h => h h2) fun h => h h3), if_neg h]
end chk
theorem ad_nil {c m : Int} : adP c 0 m := fun i hi => by omega
theorem ad_snoc {c i m : Int} (h0 : 0 ≤ i) (h : adP c i m) (h1 : 0 ≤ IntKind.wrap .i64 (rdZ c i)) (h2 : IntKind.wrap .i64 (rdZ c i) < m) : adP c (i + 1) m := by
 intro k hk
 by_cases e : (k : Int) = i
 ·unfold inR; rw [e]; exact ⟨h1, h2⟩
 ·exact h k (by omega)
theorem ad_no {c i n m : Int} (h0 : 0 ≤ i) (h1 : i < n) (h : IntKind.wrap .i64 (rdZ c i) < 0 ∨ m ≤ IntKind.wrap .i64 (rdZ c i)) : ¬ adP c n m := by
 intro g
 have := g i.toNat (by omega)
 unfold inR at this
 rw [show ((i.toNat : Nat) : Int) = i by omega] at this
 omega
theorem ad_at {c n m i : Int} (h : adP c n m) (h0 : 0 ≤ i ∧ i ≤ 4611686018427387904) (h1 : i < n) (hm : m ≤ 2048) : 0 ≤ IntKind.wrap .i64 (rdZ c i) ∧ IntKind.wrap .i64 (rdZ c i) < m ∧ IntKind.wrap .i32 (rdZ c i) = IntKind.wrap .i64 (rdZ c i) := by
 have g := h i.toNat (by omega)
 unfold inR at g
 rw [show ((i.toNat : Nat) : Int) = i by omega] at g
 refine ⟨g.1, g.2, ?_⟩
 have := wrap_wrap .i32 .i64 (rdZ c i) (by decide)
 rw [← this]
 exact qXr .i32 _ (by show (-2147483648 : Int) ≤ _; omega) (by show _ ≤ (2147483647 : Int); omega)
end Go.Eng
end
/-!  -/
noncomputable section
namespace Go.Eng
theorem chk_zero {nC nD nS nI nO cI cO : Int} (h : chk7 nC nD nS nI nO cI cO = 0) : nC ≤ 16384 ∧ nD ≤ 2048 ∧ nI ≤ 255 ∧ nO ≤ 255 ∧ nS = nD ∧ adP cI nI nD ∧ adP cO nO nD ∧ ¬ twP cI nI := by
 unfold chk7 at h
 split at h
 ·cases h
 ·split at h
  ·cases h
  ·split at h
   ·cases h
   ·rename_i h1 h2 h3
    refine ⟨by omega, by omega, by omega, by omega, Classical.byContradiction fun e => h2 (.inl e), Classical.byContradiction fun e => h2 (.inr (.inl e)), Classical.byContradiction fun e => h2 (.inr (.inr e)), h3⟩
section
variable {cK c1 nD fuel : Int} {k : Nat}
end
end Go.Eng
end
/-!  -/
noncomputable section
namespace Go.Eng
section
variable {op d a b n nr rg rm pc st mq nm A B p s Q N : Int}
variable {m : Fm}
end
end Go.Eng
end
/-!  -/
noncomputable section
namespace Go.Eng
section
variable {w nc nr : Int} {m0 : Fm}
end
section
variable {cK nc nr i rg rm pc st mq nm fuel cD cS T : Int} {m0 : Fm}
end
end Go.Eng
end
/-!  -/
noncomputable section
namespace Go.Eng
section
theorem zero_rd (i : Int) (h0 : 0 ≤ i) : rdZ (zeroZ 32) i = 0 := by
 have : ∀ (n : Nat) (i : Nat), rdZ (zeroZ n) i = 0 := by
  intro n
  induction n with
  | zero => intro i; exact qZn _
  | succ n ih =>
   intro i
   cases i with
   | zero => exact qQv _ _
   | succ i =>
    show rdZ (qQq 0 (zeroZ n)) _ = 0
    rw [qZj _ _ (by omega), show ((i + 1 : Nat) : Int) - 1 = i by omega]; exact ih i
 have := this 32 i.toNat
 rwa [show ((i.toNat : Nat) : Int) = i by omega] at this
variable {M v c : Int}
end
end Go.Eng
end
/-!  -/
noncomputable section
namespace Go.Eng
section
variable {op d a b n nr rx rk rm hv pc st mq nm A B C D p s Q N : Int}
end
section
variable {nr : Int} {F : Fm} {R : Rm}
theorem aluK_iff {op a b : Int} (h1 : 1 ≤ op) (h2 : op ≤ 30) : aluK op a b = 0 ↔ (op = 22 ∨ op = 23) ∧ b = 0 := by
 unfold aluK
 by_cases h : aluP op b
 ·rw [if_pos h]; exact ⟨fun g => absurd g (by decide), fun g => absurd g h.2.2⟩
 ·rw [if_neg h]; exact ⟨fun _ => Classical.byContradiction fun g => h ⟨h1, h2, g⟩, fun _ => rfl⟩
theorem aluV_b {op a b c : Int} (h : 24 ≤ op) (h2 : op ≤ 30) : aluV op a b = aluV op a c := by
 have p : ∀ x, aluP op x := fun x => by unfold aluP; omega
 unfold aluV
 rw [if_pos (p b), if_pos (p c)]
 unfold aluX
 simp only [if_neg (show ¬ op = 1 by omega), if_neg (show ¬ op = 2 by omega), if_neg (show ¬ op = 3 by omega), if_neg (show ¬ op = 4 by omega), if_neg (show ¬ op = 5 by omega), if_neg (show ¬ op = 6 by omega), if_neg (show ¬ op = 7 by omega), if_neg (show ¬ op = 8 by omega), if_neg (show ¬ op = 9 by omega), if_neg (show ¬ op = 10 by omega), if_neg (show ¬ op = 11 by omega), if_neg (show ¬ op = 12 by omega), if_neg (show ¬ op = 13 by omega), if_neg (show ¬ op = 14 by omega), if_neg (show ¬ op = 15 by omega), if_neg (show ¬ op = 16 by omega), if_neg (show ¬ op = 17 by omega), if_neg (show ¬ op = 18 by omega), if_neg (show ¬ op = 19 by omega), if_neg (show ¬ op = 20 by omega), if_neg (show ¬ op = 21 by omega), if_neg (show ¬ op = 22 by omega), if_neg (show ¬ op = 23 by omega)]
end
end Go.Eng
end
/-!  -/
noncomputable section
namespace Go.Eng
section
variable {w nc nr rx rk rm hv pc st mq nm A B C D p s Q N t op d a b n : Int}
end
section
variable {nr : Int} {F : Fm} {R : Rm}
end
end Go.Eng
end
/-!  -/
noncomputable section
namespace Go.Eng
section
variable {cK nc nr cD cS i rx rk rm hv pc st mq nm fuel T : Int}
end
end Go.Eng
end
/-!  -/
noncomputable section
namespace Go.Eng
end Go.Eng
end
/-!  -/
noncomputable section
namespace Go.Eng
section
variable {nr : Int} {F : Fm} {M : Mac}
end
section
variable {w nr : Int} {nc : Nat}
end
end Go.Eng
end
/-!  -/
noncomputable section
namespace Go.Eng
section
variable {w nc nr fuel cD cS L T R : Int}
end
end Go.Eng
end
/-!  -/
noncomputable section
namespace Go.Eng
theorem lik_at (cD cS nS cL nL : Int) : ∀ (n k : Nat), k < n → rdZ (likF cD cS nS cL nL n) k = likV cD cS nS cL nL k
 | 0, k, h => by omega
 | n + 1, k, h => by
  rw [likF, qQi, Int.toNat_natCast, Int.toNat_natCast]
  by_cases e : k = n
  ·rw [if_pos e, e]
  ·rw [if_neg e]; exact lik_at cD cS nS cL nL n k (by omega)
theorem lik_ev (cD nD cS nS cL nL : Int) : likZ cD nD (qQq cS (qQq nS (qQq cL (qQq nL 0)))) = likF cD cS nS cL nL nD.toNat := by
 have h := qXt [cS, nS, cL, nL]
 have h0 : rdZ (qQq cS (qQq nS (qQq cL (qQq nL 0)))) 0 = cS := h 0
 have h1 : rdZ (qQq cS (qQq nS (qQq cL (qQq nL 0)))) 1 = nS := h 1
 have h2 : rdZ (qQq cS (qQq nS (qQq cL (qQq nL 0)))) 2 = cL := h 2
 have h3 : rdZ (qQq cS (qQq nS (qQq cL (qQq nL 0)))) 3 = nL := h 3
 unfold likZ
 rw [h0, h1, h2, h3]
theorem lik_rd {cD nD cS nS cL nL j : Int} (h0 : 0 ≤ j) (h1 : j < nD) : rdZ (likZ cD nD (qQq cS (qQq nS (qQq cL (qQq nL 0))))) j = likV cD cS nS cL nL j := by
 rw [lik_ev]
 have := lik_at cD cS nS cL nL nD.toNat j.toNat (by omega)
 rwa [show ((j.toNat : Nat) : Int) = j by omega] at this
theorem lik_open {cD nD cS nS cL nL j : Int} (h0 : 0 ≤ j) (h1 : j < nD) (h : rdZ cS j = 0) : IntKind.wrap .i32 (rdZ (likZ cD nD (qQq cS (qQq nS (qQq cL (qQq nL 0))))) j) = IntKind.wrap .i32 (rdZ cD j) := by
 rw [lik_rd h0 h1]
 unfold likV
 rw [if_neg (by omega), wi32_wrap]
theorem likV_wrap (cD cS nS cL nL j : Int) : IntKind.wrap .i32 (likV cD cS nS cL nL j) = likV cD cS nS cL nL j := by
 unfold likV; split <;> rw [wi32_wrap]
end Go.Eng
end
