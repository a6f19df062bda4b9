/-
  Parts of the engine, a program's symbolic run, proved sound; and of plain laws.
-/
import Derived.Test.YteimodjkllldlafGreatDoorGp1
import Derived.Test.YteimodjkllldlafGreatDoorGp2
set_option linter.unusedVariables false
set_option linter.unusedSimpArgs false
/-!  -/
noncomputable section
namespace Go.Eng
theorem nodup_len : ∀ (d l : List Int), d.Nodup → (∀ x ∈ d, x ∈ l) → d.length ≤ l.length
 | [], _, _, _ => Nat.zero_le _
 | x :: d, l, hd, h => by
  obtain ⟨h1, h2⟩ := List.nodup_cons.1 hd
  have hx : x ∈ l := h x List.mem_cons_self
  have := nodup_len d (l.erase x) h2 fun y hy => (List.mem_erase_of_ne (fun e => h1 (by rw [← e]; exact hy))).2 (h y (List.mem_cons_of_mem _ hy))
  rw [List.length_erase_of_mem hx] at this
  have hp : 0 < l.length := List.length_pos_of_mem hx
  simp only [List.length_cons]; omega
theorem dup_short : ∀ l : List Int, ¬ l.Nodup → ∃ m : List Int, m.length < l.length ∧ ∀ x ∈ l, x ∈ m
 | [], h => absurd List.nodup_nil h
 | a :: t, h => by
  by_cases ha : a ∈ t
  ·exact ⟨t, by simp, fun x hx => (List.mem_cons.1 hx).elim (fun e => e ▸ ha) id⟩
  ·obtain ⟨m, h1, h2⟩ := dup_short t fun hn => h (List.nodup_cons.2 ⟨ha, hn⟩)
   exact ⟨a :: m, by simpa using h1, fun x hx => (List.mem_cons.1 hx).elim (fun e => e ▸ List.mem_cons_self) fun hx => List.mem_cons_of_mem _ (h2 x hx)⟩
theorem len_nodup {d l : List Int} (hd : d.Nodup) (h : ∀ x, x ∈ d ↔ x ∈ l) : d.length = l.length ↔ l.Nodup := by
 constructor
 ·intro e
  refine Classical.byContradiction fun hn => ?_
  obtain ⟨m, h1, h2⟩ := dup_short l hn
  have := nodup_len d m hd fun x hx => h2 x ((h x).1 hx)
  omega
 ·intro hl
  have h1 := nodup_len d l hd fun x hx => (h x).1 hx
  have h2 := nodup_len l d hl fun x hx => (h x).2 hx
  omega
theorem rowL_nodup {c n : Int} : (rowL c n).Nodup ↔ ¬ twP c n := by
 unfold rowL twP
 rw [List.nodup_iff_pairwise_ne, List.pairwise_map]
 constructor
 ·rintro h ⟨i, k, h1, h2, h3⟩
  rw [List.pairwise_iff_getElem] at h
  have := h k i (by simp; omega) (by simp; omega) h1
  simp only [List.getElem_range] at this
  exact this h3.symm
 ·intro h
  rw [List.pairwise_iff_getElem]
  intro i j hi hj hij
  simp only [List.getElem_range]
  simp only [List.length_range] at hi hj
  exact fun e => h ⟨j, i, hij, by omega, e.symm⟩
theorem rowL_bd {c n x : Int} (h : x ∈ rowL c n) : -9223372036854775808 ≤ x ∧ x ≤ 9223372036854775807 := by
 unfold rowL at h
 obtain ⟨i, _, rfl⟩ := List.mem_map.1 h
 exact qXt .i64 _
theorem comp_twice {q c n : Int} (hn : 0 ≤ n) (h : rowL q n = rowL c n) : compN (sortC q n) n = n ↔ ¬ twP c n := by
 have hl : (rowL c n).length = n.toNat := by simp [rowL]
 have h2 : rowL (sortC q n) n = sortL (rowL c n) := by
  refine rowL_rw ?_ (by rw [sortL_len, hl]; omega) fun x hx => rowL_bd (sortL_mem.1 hx)
  have : sortC q n = LZ (sortL (rowL c n)) := by unfold sortC sortL; rw [h]
  rw [this]; exact Rw.lz _
 obtain ⟨g1, g2⟩ := compact_sorted (rowL c n)
 have g3 := len_nodup (g1.imp fun h => Int.ne_of_lt h) g2
 rw [rowL_nodup, hl] at g3
 rw [← g3]
 unfold compN
 rw [h2]
 omega
theorem chk_ev (nC nD nS nI nO cI cO : Int) : chkZ nC nD (qQq nS (qQq nI (qQq nO (qQq cI (qQq cO 0))))) = chk7 nC nD nS nI nO cI cO := by
 have h := qKy [nS, nI, nO, cI, cO]
 have h0 := h 0; have h1 := h 1; have h2 := h 2; have h3 := h 3; have h4 := h 4
 unfold chn chn chn chn chn chn at h0 h1 h2 h3 h4
 have e0 : rdZ (qQq nS (qQq nI (qQq nO (qQq cI (qQq cO 0))))) 0 = nS := h0
 have e1 : rdZ (qQq nS (qQq nI (qQq nO (qQq cI (qQq cO 0))))) 1 = nI := h1
 have e2 : rdZ (qQq nS (qQq nI (qQq nO (qQq cI (qQq cO 0))))) 2 = nO := h2
 have e3 : rdZ (qQq nS (qQq nI (qQq nO (qQq cI (qQq cO 0))))) 3 = cI := h3
 have e4 : rdZ (qQq nS (qQq nI (qQq nO (qQq cI (qQq cO 0))))) 4 = cO := h4
 unfold chkZ
 rw [e0, e1, e2, e3, e4]
section chk
variable {nC nD nS nI nO cI cO : Int}
theorem chk_long (h : 16384 < nC ∨ 2048 < nD ∨ 255 < nI ∨ 255 < nO) : 5 = chk7 nC nD nS nI nO cI cO := by
 unfold chk7; rw [if_pos h]
theorem chk_arg (hl : ¬ (16384 < nC ∨ 2048 < nD ∨ 255 < nI ∨ 255 < nO)) (h : nS ≠ nD ∨ ¬ adP cI nI nD ∨ ¬ adP cO nO nD) : 2 = chk7 nC nD nS nI nO cI cO := by
 unfold chk7; rw [if_neg hl, if_pos h]
theorem chk_twice (hl : ¬ (16384 < nC ∨ 2048 < nD ∨ 255 < nI ∨ 255 < nO)) (h1 : nS = nD) (h2 : adP cI nI nD) (h3 : adP cO nO nD) (h : twP cI nI) : 9 = chk7 nC nD nS nI nO cI cO := by
 unfold chk7; rw [if_neg hl, if_neg (fun h => h.elim (fun h => h h1) fun h => h.elim (fun h => h h2) fun h => h h3), if_pos h]
theorem chk_ok (hl : ¬ (16384 < nC ∨ 2048 < nD ∨ 255 < nI ∨ 255 < nO)) (h1 : nS = nD) (h2 : adP cI nI nD) (h3 : adP cO nO nD) (h : ¬ twP cI nI) : 0 = chk7 nC nD nS nI nO cI cO := by
 unfold chk7; rw [if_neg hl, if_neg (fun h => h.elim (fun h => h h1) fun h => h.elim (fun h => h h2) fun h => h h3), if_neg h]
end chk
theorem ad_nil {c m : Int} : adP c 0 m := fun i hi => by omega
theorem ad_snoc {c i m : Int} (h0 : 0 ≤ i) (h : adP c i m) (h1 : 0 ≤ IntKind.wrap .i64 (rdZ c i)) (h2 : IntKind.wrap .i64 (rdZ c i) < m) : adP c (i + 1) m := by
 intro k hk
 by_cases e : (k : Int) = i
 ·unfold inR; rw [e]; exact ⟨h1, h2⟩
 ·exact h k (by omega)
theorem ad_no {c i n m : Int} (h0 : 0 ≤ i) (h1 : i < n) (h : IntKind.wrap .i64 (rdZ c i) < 0 ∨ m ≤ IntKind.wrap .i64 (rdZ c i)) : ¬ adP c n m := by
 intro g
 have := g i.toNat (by omega)
 unfold inR at this
 rw [show ((i.toNat : Nat) : Int) = i by omega] at this
 omega
theorem ad_at {c n m i : Int} (h : adP c n m) (h0 : 0 ≤ i ∧ i ≤ 4611686018427387904) (h1 : i < n) (hm : m ≤ 2048) : 0 ≤ IntKind.wrap .i64 (rdZ c i) ∧ IntKind.wrap .i64 (rdZ c i) < m ∧ IntKind.wrap .i32 (rdZ c i) = IntKind.wrap .i64 (rdZ c i) := by
 have g := h i.toNat (by omega)
 unfold inR at g
 rw [show ((i.toNat : Nat) : Int) = i by omega] at g
 refine ⟨g.1, g.2, ?_⟩
 have := wrap_wrap .i32 .i64 (rdZ c i) (by decide)
 rw [← this]
 exact qXs .i32 _ (by show (-2147483648 : Int) ≤ _; omega) (by show _ ≤ (2147483647 : Int); omega)
end Go.Eng
end
/-!  -/
noncomputable section
namespace Go.Eng
theorem chk_zero {nC nD nS nI nO cI cO : Int} (h : chk7 nC nD nS nI nO cI cO = 0) : nC ≤ 16384 ∧ nD ≤ 2048 ∧ nI ≤ 255 ∧ nO ≤ 255 ∧ nS = nD ∧ adP cI nI nD ∧ adP cO nO nD ∧ ¬ twP cI nI := by
 unfold chk7 at h
 split at h
 ·cases h
 ·split at h
  ·cases h
  ·split at h
   ·cases h
   ·rename_i h1 h2 h3
    refine ⟨by omega, by omega, by omega, by omega, Classical.byContradiction fun e => h2 (.inl e), Classical.byContradiction fun e => h2 (.inr (.inl e)), Classical.byContradiction fun e => h2 (.inr (.inr e)), h3⟩
section
variable {cK c1 nD fuel : Int} {k : Nat}
end
end Go.Eng
end
/-!  -/
noncomputable section
namespace Go.Eng
section
variable {op d a b n nr rg rm pc st mq nm A B p s Q N : Int}
variable {m : Fm}
end
end Go.Eng
end
/-!  -/
noncomputable section
namespace Go.Eng
section
variable {w nc nr : Int} {m0 : Fm}
end
section
variable {cK nc nr i rg rm pc st mq nm fuel cD cS T : Int} {m0 : Fm}
end
end Go.Eng
end
/-!  -/
noncomputable section
namespace Go.Eng
section
theorem zero_rd (i : Int) (h0 : 0 ≤ i) : rdZ (zeroZ 32) i = 0 := by
 have : ∀ (n : Nat) (i : Nat), rdZ (zeroZ n) i = 0 := by
  intro n
  induction n with
  | zero => intro i; exact qZn _
  | succ n ih =>
   intro i
   cases i with
   | zero => exact qQy _ _
   | succ i =>
    show rdZ (qQq 0 (zeroZ n)) _ = 0
    rw [qZz _ _ (by omega), show ((i + 1 : Nat) : Int) - 1 = i by omega]; exact ih i
 have := this 32 i.toNat
 rwa [show ((i.toNat : Nat) : Int) = i by omega] at this
variable {M v c : Int}
end
end Go.Eng
end
/-!  -/
noncomputable section
namespace Go.Eng
section
variable {op d a b n nr rx rk rm hv pc st mq nm A B C D p s Q N : Int}
end
section
variable {nr : Int} {F : Fm} {R : Rm}
theorem aluK_iff {op a b : Int} (h1 : 1 ≤ op) (h2 : op ≤ 30) : aluK op a b = 0 ↔ (op = 22 ∨ op = 23) ∧ b = 0 := by
 unfold aluK
 by_cases h : aluP op b
 ·rw [if_pos h]; exact ⟨fun g => absurd g (by decide), fun g => absurd g h.2.2⟩
 ·rw [if_neg h]; exact ⟨fun _ => Classical.byContradiction fun g => h ⟨h1, h2, g⟩, fun _ => rfl⟩
theorem aluV_b {op a b c : Int} (h : 24 ≤ op) (h2 : op ≤ 30) : aluV op a b = aluV op a c := by
 have p : ∀ x, aluP op x := fun x => by unfold aluP; omega
 unfold aluV
 rw [if_pos (p b), if_pos (p c)]
 unfold aluX
 simp only [if_neg (show ¬ op = 1 by omega), if_neg (show ¬ op = 2 by omega), if_neg (show ¬ op = 3 by omega), if_neg (show ¬ op = 4 by omega), if_neg (show ¬ op = 5 by omega), if_neg (show ¬ op = 6 by omega), if_neg (show ¬ op = 7 by omega), if_neg (show ¬ op = 8 by omega), if_neg (show ¬ op = 9 by omega), if_neg (show ¬ op = 10 by omega), if_neg (show ¬ op = 11 by omega), if_neg (show ¬ op = 12 by omega), if_neg (show ¬ op = 13 by omega), if_neg (show ¬ op = 14 by omega), if_neg (show ¬ op = 15 by omega), if_neg (show ¬ op = 16 by omega), if_neg (show ¬ op = 17 by omega), if_neg (show ¬ op = 18 by omega), if_neg (show ¬ op = 19 by omega), if_neg (show ¬ op = 20 by omega), if_neg (show ¬ op = 21 by omega), if_neg (show ¬ op = 22 by omega), if_neg (show ¬ op = 23 by omega)]
end
end Go.Eng
end
/-!  -/
noncomputable section
namespace Go.Eng
section
variable {w nc nr rx rk rm hv pc st mq nm A B C D p s Q N t op d a b n : Int}
end
section
variable {nr : Int} {F : Fm} {R : Rm}
end
end Go.Eng
end
/-!  -/
noncomputable section
namespace Go.Eng
section
variable {cK nc nr cD cS i rx rk rm hv pc st mq nm fuel T : Int}
end
end Go.Eng
end
/-!  -/
noncomputable section
namespace Go.Eng
end Go.Eng
end
/-!  -/
noncomputable section
namespace Go.Eng
section
variable {nr : Int} {F : Fm} {M : Mac}
end
section
variable {w nr : Int} {nc : Nat}
end
end Go.Eng
end
/-!  -/
noncomputable section
namespace Go.Eng
section
variable {w nc nr fuel cD cS L T R : Int}
end
end Go.Eng
end
/-!  -/
noncomputable section
namespace Go.Eng
theorem lik_at (cD cS nS cL nL : Int) : ∀ (n k : Nat), k < n → rdZ (likF cD cS nS cL nL n) k = likV cD cS nS cL nL k
 | 0, k, h => by omega
 | n + 1, k, h => by
  rw [likF, qQh, Int.toNat_natCast, Int.toNat_natCast]
  by_cases e : k = n
  ·rw [if_pos e, e]
  ·rw [if_neg e]; exact lik_at cD cS nS cL nL n k (by omega)
theorem lik_ev (cD nD cS nS cL nL : Int) : likZ cD nD (qQq cS (qQq nS (qQq cL (qQq nL 0)))) = likF cD cS nS cL nL nD.toNat := by
 have h := qKy [cS, nS, cL, nL]
 have h0 : rdZ (qQq cS (qQq nS (qQq cL (qQq nL 0)))) 0 = cS := h 0
 have h1 : rdZ (qQq cS (qQq nS (qQq cL (qQq nL 0)))) 1 = nS := h 1
 have h2 : rdZ (qQq cS (qQq nS (qQq cL (qQq nL 0)))) 2 = cL := h 2
 have h3 : rdZ (qQq cS (qQq nS (qQq cL (qQq nL 0)))) 3 = nL := h 3
 unfold likZ
 rw [h0, h1, h2, h3]
theorem lik_rd {cD nD cS nS cL nL j : Int} (h0 : 0 ≤ j) (h1 : j < nD) : rdZ (likZ cD nD (qQq cS (qQq nS (qQq cL (qQq nL 0))))) j = likV cD cS nS cL nL j := by
 rw [lik_ev]
 have := lik_at cD cS nS cL nL nD.toNat j.toNat (by omega)
 rwa [show ((j.toNat : Nat) : Int) = j by omega] at this
theorem lik_open {cD nD cS nS cL nL j : Int} (h0 : 0 ≤ j) (h1 : j < nD) (h : rdZ cS j = 0) : IntKind.wrap .i32 (rdZ (likZ cD nD (qQq cS (qQq nS (qQq cL (qQq nL 0))))) j) = IntKind.wrap .i32 (rdZ cD j) := by
 rw [lik_rd h0 h1]
 unfold likV
 rw [if_neg (by omega), wi32_wrap]
theorem likV_wrap (cD cS nS cL nL j : Int) : IntKind.wrap .i32 (likV cD cS nS cL nL j) = likV cD cS nS cL nL j := by
 unfold likV; split <;> rw [wi32_wrap]
end Go.Eng
end
/-!  -/
noncomputable section
namespace Go.Eng
structure Ne2 (nr cS : Int) (S : Int → Prop) (A B : Mac) : Prop where
 pc : B.pc = A.pc
 st : B.st = A.st
 co : B.co = A.co
 mq : B.mq = A.mq
 nm : B.nm = A.nm
 rm : ∀ j : Int, 0 ≤ j → j < nr → rdZ cS j = 0 → IntKind.wrap .i32 (rdZ B.rm j) = IntKind.wrap .i32 (rdZ A.rm j)
 rg : ∀ r : Int, 0 ≤ r → r < 32 → ¬ S r → B.reg r = A.reg r
 z : A.reg 0 = 0 ∧ B.reg 0 = 0
section
variable {nr cS : Int} {S : Int → Prop} {A B : Mac}
theorem ne_goes (h : Ne2 nr cS S A B) (next addr cost : Int) : Ne2 nr cS S (A.goes next addr cost) (B.goes next addr cost) := by
 refine ⟨rfl, h.st, ?_, ?_, ?_, h.rm, h.rg, h.z⟩
 ·show IntKind.wrap .i64 (B.co + cost) = IntKind.wrap .i64 (A.co + cost); rw [h.co]
 ·show updZ B.mq B.nm (qQq B.pc _) = updZ A.mq A.nm (qQq A.pc _); rw [h.mq, h.nm, h.pc]
 ·show B.nm + 1 = A.nm + 1; rw [h.nm]
theorem ne_st (h : Ne2 nr cS S A B) (s : Int) : Ne2 nr cS S { A with st := s } { B with st := s } := ⟨h.pc, rfl, h.co, h.mq, h.nm, h.rm, h.rg, h.z⟩
theorem ne_put (h : Ne2 nr cS S A B) {d x y : Int} {ds : Prop} (d0 : 0 ≤ d) (hx : ¬ ds → IntKind.wrap .i32 y = IntKind.wrap .i32 x) : Ne2 nr cS (putQ S d ds) (A.put d x) (B.put d y) := by
 unfold Mac.put
 by_cases e : d ≠ 0
 ·rw [if_pos e, if_pos e]
  refine ⟨h.pc, h.st, h.co, h.mq, h.nm, h.rm, fun r r0 r1 hr => ?_, ?_⟩
  ·unfold Mac.reg
   simp only [qQh]
   by_cases g : r.toNat = d.toNat
   ·rw [if_pos g, if_pos g]
    refine hx fun k => hr (.inl ⟨by omega, k, e⟩)
   ·rw [if_neg g, if_neg g]
    exact h.rg r r0 r1 fun k => hr (.inr ⟨by omega, k⟩)
  ·unfold Mac.reg
   simp only [qQh]
   rw [if_neg (by omega), if_neg (by omega)]
   exact h.z
 ·rw [if_neg e, if_neg e]
  refine ⟨h.pc, h.st, h.co, h.mq, h.nm, h.rm, fun r r0 r1 hr => ?_, h.z⟩
  by_cases g : r = 0
  ·subst g; rw [h.z.1, h.z.2]
  ·exact h.rg r r0 r1 fun k => hr (.inr ⟨by omega, k⟩)
theorem ne_sub (h : Ne2 nr cS S A B) {S' : Int → Prop} (hs : ∀ r, S r → S' r) : Ne2 nr cS S' A B := ⟨h.pc, h.st, h.co, h.mq, h.nm, h.rm, fun r r0 r1 k => h.rg r r0 r1 fun g => k (hs r g), h.z⟩
end
def Go2 (nr cS op d a b n pc : Int) (S : Int → Prop) (A B : Mac) : Prop :=
 (Ne2 nr cS S A B ∧ A.st ≠ 0 ∧ A.pc = pc) ∨ (Ne2 nr cS (behS nr cS op d a b n S) A B ∧ A.st = 0 ∧ nxtP nr op a n pc A.pc)
section
variable {nr cS op d a b n : Int} {S : Int → Prop} {A B : Mac}
theorem g2_stop (h : Ne2 nr cS S A B) {s : Int} (hs : s ≠ 0) : Go2 nr cS op d a b n A.pc S { A with st := s } { B with st := s } := .inl ⟨ne_st h s, hs, rfl⟩
theorem g2_put (h : Ne2 nr cS S A B) (hst : A.st = 0) (d0 : 0 ≤ d) {x y t addr c : Int} (hp : putsP op) (hx : ¬ dsec nr cS op a b n S → IntKind.wrap .i32 y = IntKind.wrap .i32 x) (ht : nxtP nr op a n A.pc t) :
  Go2 nr cS op d a b n A.pc S ((A.put d x).goes t addr c) ((B.put d y).goes t addr c) :=
 .inr ⟨ne_sub (ne_goes (ne_put h d0 hx) _ _ _) fun r k => .inl ⟨hp, k⟩, by show (A.put d x).st = 0; rw [(qXy A d x).2.1]; exact hst, ht⟩
theorem g2_goes (h : Ne2 nr cS S A B) (hst : A.st = 0) {t addr c : Int} (hp : ¬ putsP op) (ht : nxtP nr op a n A.pc t) : Go2 nr cS op d a b n A.pc S (A.goes t addr c) (B.goes t addr c) :=
 .inr ⟨ne_sub (ne_goes h _ _ _) fun r k => .inr ⟨hp, k⟩, hst, ht⟩
theorem ne_does (h : Ne2 nr cS S A B) (hst : A.st = 0) (o1 : 1 ≤ op) (o43 : op ≤ 43) (d0 : 0 ≤ d) (d1 : d < 32) (a0 : 0 ≤ a) (a1 : a < 32) (b0 : 0 ≤ b) (b1 : b < 32) (n0 : -32768 ≤ n) (n1 : n ≤ 65535)
  (p0 : 0 ≤ A.pc) (p1 : A.pc ≤ 20000) (w : ¬ wrongP nr cS op d a b n S) : Go2 nr cS op d a b n A.pc S (A.does nr op d a b n) (B.does nr op d a b n) := by
 have hw : IntKind.wrap .i32 n = n := wi32 (by omega) (by omega)
 have hpc : IntKind.wrap .i64 (A.pc + 1) = A.pc + 1 := w64 (by omega) (by omega)
 have ga := h.rg a a0 a1
 have gb := h.rg b b0 b1
 have gd := h.rg d d0 d1
 have hn1 : ¬ (36 ≤ op ∧ op ≤ 40) → ¬ qXm nr op a n → nxtP nr op a n A.pc (IntKind.wrap .i64 (A.pc + 1)) := fun h1 h2 => ⟨h2, .inr (.inr ⟨h1, hpc⟩)⟩
 have put1 : ∀ (m : Mac) (i x c : Int), (m.put i x).on c = (m.put i x).goes (IntKind.wrap .i64 (m.pc + 1)) (-1) c := fun m i x c => by unfold Mac.on; rw [(qXy m i x).1]
 have key : ∀ {x y c : Int}, putsP op → ¬ (36 ≤ op ∧ op ≤ 40) → ¬ qXm nr op a n → (¬ dsec nr cS op a b n S → IntKind.wrap .i32 y = IntKind.wrap .i32 x) → Go2 nr cS op d a b n A.pc S ((A.put d x).on c) ((B.put d y).on c) := fun {x y c} hp hj he hx => by
  rw [put1, put1, h.pc]
  exact g2_put h hst d0 hp hx (hn1 hj he)
 by_cases o2 : op ≤ 30
 ·rw [does_alu o2, does_alu o2]
  have hK : aluK op (B.reg a) (B.reg b) = aluK op (A.reg a) (A.reg b) := by
   by_cases e : op = 22 ∨ op = 23
   ·rw [ga fun k => w (.inl ⟨e, .inl k⟩), gb fun k => w (.inl ⟨e, .inr k⟩)]
   ·have q1 : ∀ x y, aluK op x y = 1 := fun x y => by
     have q : aluK op x y ≠ 0 := fun g => e ((aluK_iff o1 o2).1 g).1
     unfold aluK at *
     split at q
     ·rename_i g; rw [if_pos g]
     ·exact absurd rfl q
    rw [q1, q1]
  have hC : aluC op (B.reg a) = aluC op (A.reg a) := by
   by_cases e : op = 22 ∨ op = 23
   ·rw [ga fun k => w (.inl ⟨e, .inl k⟩)]
   ·unfold aluC; rw [if_neg e, if_neg e]
  rw [hK, hC]
  by_cases hk : aluK op (A.reg a) (A.reg b) = 0
  ·rw [if_pos hk, if_pos hk]
   exact g2_stop h (by decide)
  ·rw [if_neg hk, if_neg hk]
   refine key (.inl (by omega)) (by omega) (by unfold qXm; omega) (fun ns => ?_)
   have na : ¬ S a := fun k => ns (.inl ⟨o2, .inl k⟩)
   rw [ga na]
   by_cases e : op ≤ 23
   ·rw [gb fun k => ns (.inl ⟨o2, .inr ⟨e, k⟩⟩)]
   ·rw [aluV_b (b := B.reg b) (c := A.reg b) (by omega) o2]
 by_cases o : op = 31
 ·subst o
  rw [does_31, does_31]
  exact key (.inl (by omega)) (by omega) (by unfold qXm; omega) (fun ns => by rw [ga fun k => ns (.inr (.inl ⟨.inl rfl, k⟩))])
 by_cases o' : op = 32
 ·subst o'
  rw [does_32, does_32]
  exact key (.inl (by omega)) (by omega) (by unfold qXm; omega) (fun ns => by rw [ga fun k => ns (.inr (.inl ⟨.inr rfl, k⟩))])
 by_cases o3 : op = 33
 ·subst o3
  rw [does_33, does_33]
  exact key (.inl (by omega)) (by omega) (by unfold qXm; omega) (fun _ => rfl)
 by_cases o4 : op = 34 ∨ op = 35
 ·have na : ¬ (op = 34 ∧ S a) := fun k => w (.inr (.inl k))
  have nb : ¬ (op = 35 ∧ a ≠ 0 ∧ S a) := fun k => w (.inr (.inr (.inr (.inl ⟨k.1, k.2.1, .inl k.2.2⟩))))
  have hra : B.reg a = A.reg a := by
   by_cases e : a = 0
   ·subst e; rw [h.z.1, h.z.2]
   ·exact ga fun k => by rcases o4 with o | o; exact na ⟨o, k⟩; exact nb ⟨o, e, k⟩
  have eA : A.does nr op d a b n = A.memA nr op d (IntKind.wrap .i32 (A.reg a + n)) := by rcases o4 with rfl | rfl; rw [does_34, does_mem' hw]; rw [does_35, does_mem' hw]
  have eB : B.does nr op d a b n = B.memA nr op d (IntKind.wrap .i32 (A.reg a + n)) := by rcases o4 with rfl | rfl; rw [does_34, does_mem' hw, hra]; rw [does_35, does_mem' hw, hra]
  rw [eA, eB]
  have hX0 : a = 0 → IntKind.wrap .i32 (A.reg a + n) = n := fun e => by subst e; rw [h.z.1, Int.zero_add]; exact hw
  generalize IntKind.wrap .i32 (A.reg a + n) = X at hX0
  unfold Mac.memA
  by_cases hb : X < 0 ∨ nr ≤ X
  ·rw [if_pos hb, if_pos hb]; exact g2_stop h (by decide)
  rw [if_neg hb, if_neg hb]
  have hne : ¬ qXm nr op a n := fun e => by
   rcases e with e | e | ⟨_, e1, e2⟩
   ·omega
   ·omega
   ·have := hX0 e1; omega
  have go : ∀ c, Go2 nr cS op d a b n A.pc S (A.memo op d X c) (B.memo op d X c) := fun c => by
   unfold Mac.memo
   rw [h.pc]
   by_cases o5 : op = 35
   ·rw [if_pos o5, if_pos o5]
    have hs : Ne2 nr cS S { A with rm := updZ A.rm X (A.reg d) } { B with rm := updZ B.rm X (B.reg d) } := by
     refine ⟨h.pc, h.st, h.co, h.mq, h.nm, fun j j0 j1 hj => ?_, h.rg, h.z⟩
     show IntKind.wrap .i32 (rdZ (updZ B.rm X (B.reg d)) j) = IntKind.wrap .i32 (rdZ (updZ A.rm X (A.reg d)) j)
     rw [qQh, qQh]
     by_cases g : j.toNat = X.toNat
     ·rw [if_pos g, if_pos g]
      have jX : j = X := by omega
      subst jX
      have nd : ¬ S d := fun k => by
       by_cases e : a = 0
       ·have := hX0 e; subst this
        exact w (.inr (.inr (.inl ⟨o5, e, k, by omega, hj⟩)))
       ·exact w (.inr (.inr (.inr (.inl ⟨o5, e, .inr ⟨k, j, j0, j1, hj⟩⟩))))
      rw [gd nd]
     ·rw [if_neg g, if_neg g]; exact h.rm j j0 j1 hj
    have hp : ({ B with rm := updZ B.rm X (B.reg d) } : Mac) = { B with rm := updZ B.rm X (B.reg d) } := rfl
    have := g2_goes (d := d) (b := b) (a := a) (n := n) (op := op) hs hst (t := IntKind.wrap .i64 (A.pc + 1)) (addr := X) (c := c) (by unfold putsP; omega) (hn1 (by omega) hne)
    rw [show B.pc = A.pc from h.pc] at this
    exact this
   ·rw [if_neg o5, if_neg o5]
    refine g2_put h hst d0 (.inl (by omega)) (fun ns => ?_) (hn1 (by omega) hne)
    have o34 : op = 34 := by omega
    rw [wi32_wrap, wi32_wrap]
    refine h.rm X (by omega) (by omega) (Classical.byContradiction fun hs => ns ?_)
    by_cases e : a = 0
    ·have := hX0 e; subst this
     exact .inr (.inr (.inl ⟨o34, e, by omega, hs⟩))
    ·exact .inr (.inr (.inr ⟨o34, e, X, by omega, by omega, hs⟩))
  by_cases h10 : 1024 ≤ X
  ·rw [if_pos h10, if_pos h10]; exact go _
  ·rw [if_neg h10, if_neg h10]; exact go _
 have br : (op = 36 ∨ op = 37 ∨ op = 38) → ∀ (p q : Prop) [Decidable p] [Decidable q], (p ↔ q) → Go2 nr cS op d a b n A.pc S (A.branch n p) (B.branch n q) := fun ho p q _ _ e => by
  unfold Mac.branch Mac.on
  rw [h.pc]
  have np : ¬ putsP op := by unfold putsP; omega
  have ne : ¬ qXm nr op a n := by unfold qXm; omega
  by_cases hp : p
  ·rw [if_pos hp, if_pos (e.1 hp)]; exact g2_goes h hst np ⟨ne, .inl ⟨ho, .inl rfl⟩⟩
  ·rw [if_neg hp, if_neg fun k => hp (e.2 k)]; exact g2_goes h hst np ⟨ne, .inl ⟨ho, .inr hpc⟩⟩
 have hda : (op = 36 ∨ op = 37 ∨ op = 38) → B.reg d = A.reg d ∧ B.reg a = A.reg a := fun ho => ⟨gd fun k => w (.inr (.inr (.inr (.inr (.inl ⟨ho, .inl k⟩))))), ga fun k => w (.inr (.inr (.inr (.inr (.inl ⟨ho, .inr k⟩)))))⟩
 by_cases o6 : op = 36
 ·obtain ⟨e1, e2⟩ := hda (.inl o6)
  have := br (.inl o6)
  subst o6
  rw [does_36, does_36]; exact this _ _ (by rw [e1, e2])
 by_cases o7 : op = 37
 ·obtain ⟨e1, e2⟩ := hda (.inr (.inl o7))
  have := br (.inr (.inl o7))
  subst o7
  rw [does_37, does_37]; exact this _ _ (by rw [e1, e2])
 by_cases o8 : op = 38
 ·obtain ⟨e1, e2⟩ := hda (.inr (.inr o8))
  have := br (.inr (.inr o8))
  subst o8
  rw [does_38, does_38]; exact this _ _ (by rw [e1, e2])
 by_cases o9 : op = 39
 ·subst o9
  rw [does_39, does_39]; exact g2_goes h hst (by unfold putsP; omega) ⟨by unfold qXm; omega, .inr (.inl ⟨.inl rfl, rfl⟩)⟩
 by_cases o10 : op = 40
 ·subst o10
  rw [does_40, does_40, h.pc]; exact g2_put h hst d0 (.inr rfl) (fun _ => rfl) ⟨by unfold qXm; omega, .inr (.inl ⟨.inr rfl, rfl⟩)⟩
 by_cases o11 : op = 41
 ·exact absurd (.inr (.inr (.inr (.inr (.inr o11))))) w
 by_cases o12 : op = 42
 ·subst o12
  rw [does_42, does_42]
  unfold Mac.on
  rw [h.pc]
  exact g2_goes h hst (by unfold putsP; omega) (hn1 (by omega) (by unfold qXm; omega))
 ·have o13 : op = 43 := by omega
  subst o13
  rw [does_43, does_43, h.pc]
  exact .inl ⟨ne_st (ne_goes h _ _ _) 1, by show (1 : Int) ≠ 0; decide, rfl⟩
end
structure FlowOk (w nc nr cS : Int) (L : Lv) : Prop where
 start : 0 < nc → L.re 0
 next : ∀ pc t, 0 ≤ pc → pc < nc → L.re pc → decZ (IntKind.wrap .u32 (rdZ w pc)) 5 = 0 →
  nxtP nr (decZ (IntKind.wrap .u32 (rdZ w pc)) 0) (decZ (IntKind.wrap .u32 (rdZ w pc)) 2) (decZ (IntKind.wrap .u32 (rdZ w pc)) 4) pc t → 0 ≤ t → t < nc → L.re t ∧ ∀ r, 0 ≤ r → r < 32 →
  behS nr cS (decZ (IntKind.wrap .u32 (rdZ w pc)) 0) (decZ (IntKind.wrap .u32 (rdZ w pc)) 1) (decZ (IntKind.wrap .u32 (rdZ w pc)) 2) (decZ (IntKind.wrap .u32 (rdZ w pc)) 3) (decZ (IntKind.wrap .u32 (rdZ w pc)) 4) (L.se pc) r → L.se t r
 fine : ∀ pc, 0 ≤ pc → pc < nc → L.re pc → decZ (IntKind.wrap .u32 (rdZ w pc)) 5 = 0 →
  ¬ wrongP nr cS (decZ (IntKind.wrap .u32 (rdZ w pc)) 0) (decZ (IntKind.wrap .u32 (rdZ w pc)) 1) (decZ (IntKind.wrap .u32 (rdZ w pc)) 2) (decZ (IntKind.wrap .u32 (rdZ w pc)) 3) (decZ (IntKind.wrap .u32 (rdZ w pc)) 4) (L.se pc)
def secAt (nc : Int) (L : Lv) (pc r : Int) : Prop := ¬ (0 ≤ pc ∧ pc < nc) ∨ L.se pc r
structure Nq (nc nr cS : Int) (L : Lv) (A B : Mac) : Prop where
 ne : Ne2 nr cS (secAt nc L A.pc) A B
 re : 0 ≤ A.pc → A.pc < nc → L.re A.pc
theorem ne_only {nr cS : Int} {S S' : Int → Prop} {A B : Mac} (h : Ne2 nr cS S A B) (hs : ∀ r, 0 ≤ r → r < 32 → S r → S' r) : Ne2 nr cS S' A B := ⟨h.pc, h.st, h.co, h.mq, h.nm, h.rm, fun r r0 r1 k => h.rg r r0 r1 fun g => k (hs r r0 r1 g), h.z⟩
section
variable {w nr cS : Int} {nc : Nat} {L : Lv}
theorem nq_step (hc : nc ≤ 16384) (ho : FlowOk w nc nr cS L) {A B : Mac} (q : Nq nc nr cS L A B) (hs : A.st = 0) : Nq nc nr cS L (A.step (decC w nc) nc nr) (B.step (decC w nc) nc nr) := by
 obtain ⟨Arg, Arm, Apc, Ast, Aco, Amq, Anm⟩ := A
 obtain ⟨Brg, Brm, Bpc, Bst, Bco, Bmq, Bnm⟩ := B
 have hs : Ast = 0 := hs
 have hpc : Bpc = Apc := q.ne.pc
 have hst : Bst = Ast := q.ne.st
 subst hs; subst hst; subst hpc
 by_cases g : Bpc < 0 ∨ (nc : Int) ≤ Bpc
 ·have e : ∀ (m : Mac), m.pc = Bpc → m.st = 0 → m.step (decC w nc) nc nr = { m with st := 2 } := fun m h1 h2 => by
   unfold Mac.step
   rw [if_neg (by simp [h2]), if_pos (by rw [h1]; exact g)]
  rw [e _ rfl rfl, e _ rfl rfl]
  exact ⟨ne_st q.ne 2, fun h0 h1 => q.re h0 h1⟩
 have g0 : 0 ≤ Bpc := by omega
 have g1 : Bpc < nc := by omega
 have hA := x_dec (w := w) (k := nc) (pc := Bpc) (st := 0) (rg := Arg) (rm := Arm) (co := Aco) (mq := Amq) (nm := Anm) rfl g0 g1 nr
 have hB := x_dec (w := w) (k := nc) (pc := Bpc) (st := 0) (rg := Brg) (rm := Brm) (co := Bco) (mq := Bmq) (nm := Bnm) rfl g0 g1 nr
 rw [hA, hB]
 by_cases e5 : decZ (IntKind.wrap .u32 (rdZ w Bpc)) 5 = 0
 ·rw [if_pos e5, if_pos e5]
  obtain ⟨⟨q1, q2⟩, ⟨q3, q4⟩, ⟨q5, q6⟩, ⟨q7, q8⟩, q9, q10⟩ := dec_in (rdZ w Bpc) e5
  have hre := q.re g0 g1
  have hne : Ne2 nr cS (L.se Bpc) ⟨Arg, Arm, Bpc, 0, Aco, Amq, Anm⟩ ⟨Brg, Brm, Bpc, 0, Bco, Bmq, Bnm⟩ := ne_sub q.ne fun r k => k.elim (fun k => absurd ⟨g0, g1⟩ k) id
  have hd := ne_does hne rfl q1 q2 q3 q4 q5 q6 q7 q8 q9 q10 g0 (by show Bpc ≤ 20000; omega) (ho.fine Bpc g0 g1 hre e5)
  rcases hd with ⟨h1, _, h3⟩ | ⟨h1, _, h3⟩
  ·have h3 : (Mac.does _ _ _ _ _ _ _).pc = Bpc := h3
   refine ⟨?_, fun _ _ => by rw [h3]; exact hre⟩
   rw [h3]
   exact ne_sub h1 fun r k => .inr k
  ·have hn := fun k0 k1 => ho.next Bpc _ g0 g1 hre e5 h3 k0 k1
   refine ⟨ne_only h1 fun r r0 r1 k => ?_, fun k0 k1 => (hn k0 k1).1⟩
   unfold secAt
   by_cases kk : 0 ≤ (Mac.does ⟨Arg, Arm, Bpc, 0, Aco, Amq, Anm⟩ nr (decZ (IntKind.wrap .u32 (rdZ w Bpc)) 0) (decZ (IntKind.wrap .u32 (rdZ w Bpc)) 1) (decZ (IntKind.wrap .u32 (rdZ w Bpc)) 2) (decZ (IntKind.wrap .u32 (rdZ w Bpc)) 3) (decZ (IntKind.wrap .u32 (rdZ w Bpc)) 4)).pc ∧ (Mac.does ⟨Arg, Arm, Bpc, 0, Aco, Amq, Anm⟩ nr (decZ (IntKind.wrap .u32 (rdZ w Bpc)) 0) (decZ (IntKind.wrap .u32 (rdZ w Bpc)) 1) (decZ (IntKind.wrap .u32 (rdZ w Bpc)) 2) (decZ (IntKind.wrap .u32 (rdZ w Bpc)) 3) (decZ (IntKind.wrap .u32 (rdZ w Bpc)) 4)).pc < nc
   ·exact .inr ((hn kk.1 kk.2).2 r r0 r1 k)
   ·exact .inl kk
 ·rw [if_neg e5, if_neg e5]
  exact ⟨ne_st q.ne 3, fun h0 h1 => q.re h0 h1⟩
theorem nq_nu (ho : FlowOk w nc nr cS L) {M N : Int} (h : ∀ j : Int, 0 ≤ j → j < nr → rdZ cS j = 0 → IntKind.wrap .i32 (rdZ N j) = IntKind.wrap .i32 (rdZ M j)) : Nq nc nr cS L (macM (nuP M)) (macM (nuP N)) := by
 rw [macM_nu, macM_nu]
 have hz : ∀ m : Int, Mac.reg ⟨zeroZ 32, m, 0, 0, 0, 0, 0⟩ 0 = 0 := fun m => by unfold Mac.reg; rw [zero_rd 0 (by decide)]; decide
 exact ⟨⟨rfl, rfl, rfl, rfl, rfl, h, fun _ _ _ _ => rfl, hz _, hz _⟩, fun _ h1 => ho.start h1⟩
end
end Go.Eng
end
/-!  -/
noncomputable section
namespace Go.Eng
section
variable {nr cS : Int} {S : Int → Prop} {F : Fm}
variable {op d a b n : Int}
end
section
variable {w nr cS : Int} {nc : Nat} {L : Lv}
end
end Go.Eng
end
