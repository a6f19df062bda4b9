/-
  Parts of the engine, a program's symbolic run, proved sound; and of plain laws.
-/
import Derived.Test.YtacchdmnhfkekabGp1
import Derived.Test.YtacchdmnhfkekabGu5
set_option linter.unusedVariables false
set_option linter.unusedSimpArgs false
/-!  -/
noncomputable section
namespace Go.Eng
theorem rd_two0 (a b : Int) : rdZ (qQw a (qQw b 0)) 0 = a := qQc _ _
theorem rd_two1 (a b : Int) : rdZ (qQw a (qQw b 0)) 1 = b := by
 rw [qQr _ _ (by omega)]
 exact qQc _ _
theorem dmn_reached {nx : Nat → List Nat} {n a b : Nat} (h : Way nx (fun _ => False) 0 b) (hd : Dmn nx n a b) : Way nx (fun _ => False) 0 a := by
 rcases hd with rfl | ⟨_, hd⟩
 ·exact h
 ·refine Classical.byContradiction fun hn => hd ?_
  induction h with
  | here _ => exact .here fun e => hn (by rw [← e]; exact .here id)
  | @on b c h1 h2 _ ih =>
   by_cases e : c = a
   ·exact absurd (by rw [← e]; exact h1.on h2 id) hn
   ·by_cases hb : Way nx (· = a) 0 b
    ·exact hb.on h2 e
    ·exact absurd (ih hb) hb
theorem ahd_ne {c n a b : Int} : ahdZ c n (qQw a (qQw b 0)) ≠ 0 ↔ ahdP c n a b := by
 unfold ahdZ
 rw [rd_two0, rd_two1]
 split
 ·rename_i h; simp [h]
 ·rename_i h; simp [h]
theorem bk_mem {c n : Int} {k : Nat} {x : Int × Int} (h : x ∈ bksL c n k) : ∃ b t : Nat, x = ((b : Int), (t : Int)) ∧ b < k ∧ (t : Int) < n ∧ ahdP c n t b ∧ t ∈ nxf c n b := by
 unfold bksL at h
 obtain ⟨p, hp, hx⟩ := List.mem_flatMap.1 h
 obtain ⟨t, ht, rfl⟩ := List.mem_map.1 hx
 unfold bkL at ht
 obtain ⟨h1, h2⟩ := List.mem_filter.1 ht
 have h0 := nx_pos (Int.natCast_nonneg p) h1
 have h3 := nx_mem h1
 obtain ⟨u, rfl⟩ := Int.eq_ofNat_of_zero_le h0
 refine ⟨p, u, rfl, List.mem_range.1 hp, h3, by simpa using h2, ?_⟩
 unfold nxf
 exact List.mem_map.2 ⟨u, h1, by simp⟩
theorem bk_at {c n k : Int} (hn : n ≤ 1000) (h0 : 0 ≤ k) (h1 : k < bkN c n) : ∃ b t : Nat, (bksL c n n.toNat)[k.toNat]? = some ((b : Int), (t : Int)) ∧
  IntKind.wrap .i64 (rdZ (rdZ (bkZ c n) k) 0) = b ∧ IntKind.wrap .i64 (rdZ (rdZ (bkZ c n) k) 1) = t ∧ (b : Int) < n ∧ (t : Int) < n := by
 have e2 : min n.toNat 1000 = n.toNat := by omega
 unfold bkN at h1
 rw [e2] at h1
 have hk : k.toNat < (bksL c n n.toNat).length := by omega
 obtain ⟨b, t, e, hb, ht, _⟩ := bk_mem (List.getElem_mem hk)
 have hr : rdZ (bkZ c n) k = qQw (b : Int) (qQw (t : Int) 0) := by
  unfold bkZ rdZ
  rw [e2, ZL_LZ, List.getD_eq_getElem?_getD, List.getElem?_map, List.getElem?_eq_getElem hk, e]
  rfl
 refine ⟨b, t, by rw [List.getElem?_eq_getElem hk, e], ?_, ?_, by omega, ht⟩
 ·rw [hr, rd_two0]; exact w64 (by omega) (by omega)
 ·rw [hr, rd_two1]; exact w64 (by omega) (by omega)
theorem cyc_ne {c n : Int} : cycZ c n ≠ 0 ↔ Cyc (nxf c n) := by
 unfold cycZ
 split
 ·rename_i h; simp [h]
 ·rename_i h; simp [h]
end Go.Eng
end
/-!  -/
noncomputable section
namespace Go.Eng
def Tx (q : Int) (W : List (List UInt8)) : Prop := ∀ i : Nat, (h : i < W.length) → bytL (rdZ q i) = W[i]
theorem Tx.cons {x c : Int} {w : List UInt8} {W : List (List UInt8)} (hx : bytL x = w) (h : Tx c W) : Tx (qQw x c) (w :: W) := by
 intro i hi
 cases i with
 | zero => rw [show ((0 : Nat) : Int) = 0 from rfl, qQc, hx]; rfl
 | succ i =>
  rw [qQr _ _ (by omega), show ((i + 1 : Nat) : Int) - 1 = (i : Nat) by omega]
  exact h i (by simpa using hi)
end Go.Eng
end
/-!  -/
noncomputable section
namespace Go.Eng
def rokP (x : Int) : Prop := 1 ≤ qZp x ∧ ¬ seqZ (qQw 1 (qQw (dropZ (rdZ x 1) 0) 0)) (qQw 1 (qQw (qQw 114 0) 0)) = 0 ∧ ¬ numK (qQw (qZp x - 1) (qQw (dropZ (rdZ x 1) 1) 0)) = 0
noncomputable instance (x : Int) : Decidable (rokP x) := by unfold rokP; infer_instance
end Go.Eng
end
/-!  -/
noncomputable section
namespace Go.Eng
set_option maxRecDepth 10000
end Go.Eng
end
/-!  -/
noncomputable section
namespace Go.Eng
noncomputable abbrev nmOf (q : Int) (i : Nat) : ByteArray := qQy (rdZ (rdZ q i) 0)
noncomputable abbrev txs (z : Int) (m : Nat) : List (List UInt8) := (List.range m).map fun (j : Nat) => bytL (rdZ z j)
noncomputable abbrev txq (q : Int) (m : Nat) : List (List UInt8) := (List.range m).map fun (j : Nat) => bytL (rdZ (rdZ q j) 0)
theorem smf_self (c n : Int) : smfZ c c n = 1 := if_pos fun _ _ => rfl
end Go.Eng
end
/-!  -/
noncomputable section
namespace Go.Eng
theorem dmn_way {nx : Nat → List Nat} {n t b : Nat} (h : Way nx (fun _ => False) 0 b) (hd : Dmn nx n t b) : Way nx (fun _ => False) t b := by
 have key : ∀ c, Way nx (fun _ => False) 0 c → Way nx (· = t) 0 c ∨ Way nx (fun _ => False) t c := fun c hc => by
  induction hc with
  | here _ =>
   by_cases e : 0 = t
   ·subst e; exact .inr (.here id)
   ·exact .inl (.here e)
  | @on x y h1 h2 _ ih =>
   rcases ih with ih | ih
   ·by_cases e : y = t
    ·subst e; exact .inr (.here id)
    ·exact .inl (ih.on h2 e)
   ·exact .inr (ih.on h2 id)
 rcases hd with rfl | ⟨_, hd⟩
 ·exact .here id
 ·exact (key b h).resolve_left hd
theorem bk_cyc {c n : Int} (hn : n ≤ 1000) (h : 0 < bkN c n) : cycZ c n ≠ 0 := by
 obtain ⟨b, t, hat, _⟩ := bk_at (c := c) hn (Int.le_refl 0) h
 obtain ⟨b', t', e, hb, ht, hA, hm⟩ := bk_mem (List.mem_of_getElem? hat)
 simp only [Prod.mk.injEq] at e
 have e1 : b' = b := by omega
 have e2 : t' = t := by omega
 subst e1 e2
 have hw := hA.2.2.2.2.1
 have hd := hA.2.2.2.2.2
 rw [Int.toNat_natCast] at hw hd
 rw [Int.toNat_natCast] at hd
 refine cyc_ne.2 ⟨b', hw, t', hm, dmn_way hw hd⟩
theorem lp_at {c n h k : Int} (hn : n ≤ 1000) (h0 : 0 ≤ k) (h1 : k < lpN c n h) : ∃ x : Nat, (lpL c n h n.toNat)[k.toNat]? = some (x : Int) ∧ IntKind.wrap .i64 (rdZ (lpZ c n h) k) = x ∧ (x : Int) < n ∧ lpP c n h x := by
 have e2 : min n.toNat 1000 = n.toNat := by omega
 unfold lpN at h1
 rw [e2] at h1
 have hk : k.toNat < (lpL c n h n.toNat).length := by omega
 have hm := List.getElem_mem hk
 unfold lpL at hm
 obtain ⟨x, hx, e⟩ := List.mem_map.1 hm
 obtain ⟨hx1, hx2⟩ := List.mem_filter.1 hx
 have hx1 := List.mem_range.1 hx1
 have hr : rdZ (lpZ c n h) k = (x : Int) := by
  unfold lpZ rdZ
  rw [e2, ZL_LZ, List.getD_eq_getElem?_getD, List.getElem?_eq_getElem hk]
  exact e.symm
 refine ⟨x, by rw [List.getElem?_eq_getElem hk]; exact congrArg some e.symm, ?_, by omega, by simpa using hx2⟩
 rw [hr]; exact w64 (by omega) (by omega)
theorem lp_has {c n h : Int} {x : Nat} (hn : n ≤ 1000) (hx : (x : Int) < n) (hP : lpP c n h x) : ∃ j : Nat, (j : Int) < lpN c n h ∧ (lpL c n h n.toNat)[j]? = some (x : Int) := by
 have e2 : min n.toNat 1000 = n.toNat := by omega
 have hm : (x : Int) ∈ lpL c n h n.toNat := by
  unfold lpL
  refine List.mem_map.2 ⟨x, List.mem_filter.2 ⟨List.mem_range.2 (by omega), by simpa using hP⟩, rfl⟩
 obtain ⟨j, hj⟩ := List.getElem?_of_mem hm
 refine ⟨j, ?_, hj⟩
 unfold lpN
 rw [e2]
 have := (List.getElem?_eq_some_iff.1 hj).1
 omega
theorem lp_head {c n : Int} {b t x : Nat} (hn : n ≤ 1000) (hb : ((b : Int), (t : Int)) ∈ bksL c n n.toNat) (hx : (x : Int) < n) (hP : lpP c n t x) : ahdP c n t x := by
 have e2 : min n.toNat 1000 = n.toNat := by omega
 obtain ⟨b2, hm, hw, hq⟩ := hP
 rw [e2] at hm
 obtain ⟨b', t', e, hb', ht', hA, _⟩ := bk_mem hm
 simp only [Prod.mk.injEq] at e
 have e3 : b' = b2 := by omega
 have e4 : t' = t := by omega
 subst e3 e4
 have hd := hA.2.2.2.2.2
 simp only [Int.toNat_natCast] at hd
 refine ⟨by omega, ht', by omega, hx, by rw [Int.toNat_natCast]; exact hw, ?_⟩
 simp only [Int.toNat_natCast]
 rcases hq with hq | hq
 ·exact .inl (by omega)
 ·have eb : (fun y : Nat => (y : Int) = (t' : Int)) = fun y => y = t' := by funext y; exact propext ⟨fun h => by omega, fun h => by omega⟩
  rw [eb] at hq
  rcases hd with hd | ⟨h1, hd⟩
  ·exact absurd hd.symm hq.nbar.2
  ·exact .inr ⟨h1, fun g => hd (g.trans hq)⟩
theorem lp_self {c n : Int} {b t : Nat} (hn : n ≤ 1000) (hb : ((b : Int), (t : Int)) ∈ bksL c n n.toNat) : lpP c n t t ∧ lpP c n t b := by
 have e2 : min n.toNat 1000 = n.toNat := by omega
 obtain ⟨b', t', e, hb', ht', hA, _⟩ := bk_mem hb
 simp only [Prod.mk.injEq] at e
 have e3 : b' = b := by omega
 have e4 : t' = t := by omega
 subst e3 e4
 have hw := hA.2.2.2.2.1
 have hd := hA.2.2.2.2.2
 simp only [Int.toNat_natCast] at hw hd
 refine ⟨⟨b', by rw [e2]; exact hb, dmn_reached hw hd, .inl rfl⟩, ⟨b', by rw [e2]; exact hb, hw, ?_⟩⟩
 by_cases e : (b' : Int) = t'
 ·exact .inl e
 ·exact .inr (.here e)
def qA : Int := qQw 2617245697 (qQw 2415919104 0)
theorem qA_0 : rdZ qA 0 = 2617245697 := rd_two0 _ _
theorem qA_1 : rdZ qA 1 = 2415919104 := rd_two1 _ _
theorem aw_0 : nxL qA 2 0 = [1] := by
 have h0 : decZ (IntKind.wrap .u32 2617245697) 0 = 39 := by decide
 have h4 : decZ (IntKind.wrap .u32 2617245697) 4 = 1 := by decide
 unfold nxL
 rw [qA_0, h0, h4]
 simp
theorem aw_1 : nxL qA 2 1 = [0] := by
 have h0 : decZ (IntKind.wrap .u32 2415919104) 0 = 36 := by decide
 have h4 : decZ (IntKind.wrap .u32 2415919104) 4 = 0 := by decide
 unfold nxL
 rw [qA_1, h0, h4]
 simp [go2]
theorem awf_0 : nxf qA 2 0 = [1] := by unfold nxf; rw [show ((0 : Nat) : Int) = 0 from rfl, aw_0]; rfl
theorem awf_1 : nxf qA 2 1 = [0] := by unfold nxf; rw [show ((1 : Nat) : Int) = 1 from rfl, aw_1]; rfl
theorem aw_way : Way (nxf qA 2) (fun _ => False) 0 1 := (Way.here id).on (by rw [awf_0]; simp) id
theorem aw_ahd : ahdP qA 2 0 1 := by
 refine ⟨by omega, by omega, by omega, by omega, by simpa using aw_way, .inr ⟨by simp, fun h => ?_⟩⟩
 exact h.nbar.1 rfl
theorem aw_not : ¬ahdP qA 2 1 0 := fun h => by
 rcases h.2.2.2.2.2 with e | ⟨_, g⟩
 ·simp at e
 ·exact g (.here (by simp))
theorem aw_bks : bksL qA 2 2 = [(1, 0)] := by
 classical
 have e : List.range 2 = [0, 1] := rfl
 unfold bksL
 rw [e]
 have h0 : bkL qA 2 (0 : Nat) = [] := by
  unfold bkL
  rw [show ((0 : Nat) : Int) = 0 from rfl, aw_0]
  simp [aw_not]
 have h1 : bkL qA 2 (1 : Nat) = [0] := by
  unfold bkL
  rw [show ((1 : Nat) : Int) = 1 from rfl, aw_1]
  simp [aw_ahd]
 simp only [List.flatMap_cons, List.flatMap_nil, h0, h1]
 rfl
theorem aw_min : min ((2 : Int)).toNat 1000 = 2 := rfl
theorem aw_bkN : bkN qA 2 = 1 := by unfold bkN; rw [aw_min, aw_bks]; rfl
theorem aw_bkZ : bkZ qA 2 = qQw (qQw 1 (qQw 0 0)) 0 := by
 unfold bkZ; rw [aw_min, aw_bks]
 exact nx_z1 _
theorem aw_cyc : cycZ qA 2 ≠ 0 := cyc_ne.2 ⟨1, aw_way, 0, by rw [awf_1]; simp, aw_way⟩
theorem aw_lp : lpL qA 2 0 2 = [0, 1] := by
 classical
 have e : List.range 2 = [0, 1] := rfl
 have h0 : lpP qA 2 0 0 := ⟨1, by rw [aw_min, aw_bks]; simp, .here id, .inl rfl⟩
 have h1 : lpP qA 2 0 1 := ⟨1, by rw [aw_min, aw_bks]; simp, aw_way, .inr (.here (by simp))⟩
 unfold lpL
 rw [e]
 simp [h0, h1]
theorem aw_lpN : lpN qA 2 0 = 2 := by unfold lpN; rw [aw_min, aw_lp]; rfl
theorem aw_lpZ : lpZ qA 2 0 = qQw 0 (qQw 1 0) := by unfold lpZ; rw [aw_min, aw_lp]; exact nx_z2 _ _
theorem aw_nxN : nxN qA 2 1 = 1 := by unfold nxN; rw [aw_1]; rfl
theorem aw_nxZ : nxZ qA 2 1 = qQw 0 0 := by unfold nxZ; rw [aw_1]; exact nx_z1 _
theorem aw_ahdZ : ahdZ qA 2 (qQw 0 (qQw 1 0)) ≠ 0 := ahd_ne.2 aw_ahd
end Go.Eng
end
