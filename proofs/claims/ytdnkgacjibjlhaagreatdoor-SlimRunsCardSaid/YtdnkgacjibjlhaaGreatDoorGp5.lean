/-
  Parts of the engine, a program's symbolic run, proved sound; and of plain laws.
-/
import Derived.Test.YtdnkgacjibjlhaaGreatDoorGp4
import Derived.Test.YtdnkgacjibjlhaaGreatDoorGp3
set_option linter.unusedVariables false
set_option linter.unusedSimpArgs false
/-!  -/
noncomputable section
namespace Go.Eng
theorem wu_bd (x : Int) : 0 ≤ IntKind.wrap .u32 x ∧ IntKind.wrap .u32 x ≤ 4294967295 := by
 have := qXg .u32 x
 have b1 : klo .u32 = 0 := by decide
 have b2 : khi .u32 = 4294967295 := by decide
 omega
theorem dec_br {x : Int} (h : 36 ≤ decZ (IntKind.wrap .u32 x) 0 ∧ decZ (IntKind.wrap .u32 x) 0 ≤ 39) :
  decZ (IntKind.wrap .u32 x) 5 = 0 ∧ decZ (IntKind.wrap .u32 x) 3 = 0 ∧
  IntKind.wrap .u32 x / 65536 * 65536 = decZ (IntKind.wrap .u32 x) 0 * 67108864 + decZ (IntKind.wrap .u32 x) 1 * 2097152 + decZ (IntKind.wrap .u32 x) 2 * 65536 ∧
  (0 ≤ decZ (IntKind.wrap .u32 x) 1 ∧ decZ (IntKind.wrap .u32 x) 1 < 32) ∧ (0 ≤ decZ (IntKind.wrap .u32 x) 2 ∧ decZ (IntKind.wrap .u32 x) 2 < 32) ∧ (0 ≤ decZ (IntKind.wrap .u32 x) 4 ∧ decZ (IntKind.wrap .u32 x) 4 ≤ 65535) ∧
  (decZ (IntKind.wrap .u32 x) 0 = 39 → decZ (IntKind.wrap .u32 x) 1 = 0 ∧ decZ (IntKind.wrap .u32 x) 2 = 0) := by
 obtain ⟨w0, w1⟩ := wu_bd x
 generalize IntKind.wrap .u32 x = w at *
 have e2 : w % 4294967296 = w := by omega
 have hP : decP w := by
  by_cases e : decP w
  ·exact e
  ·exfalso
   unfold decZ at h
   simp [e2, e] at h
 have h0 : decZ w 0 = w / 67108864 := by unfold decZ; simp [e2, hP]
 have h1 : decZ w 1 = w / 2097152 % 32 := by unfold decZ; simp [e2, hP]
 have h2 : decZ w 2 = w / 65536 % 32 := by unfold decZ; simp [e2, hP]
 have h3 : decZ w 3 = if w / 67108864 ≤ 23 then w / 2048 % 32 else 0 := by unfold decZ; simp [e2, hP]
 have h4 : decZ w 4 = decN w := by unfold decZ; simp [e2, hP]
 have h5 : decZ w 5 = 0 := by unfold decZ; simp [e2, hP]
 rw [h0] at h
 have hN : decN w = w % 65536 := by
  unfold decN
  simp only
  rw [if_neg (by omega), if_neg (by omega)]
 rw [h0, h1, h2, h3, h4, h5, hN, if_neg (by omega)]
 refine ⟨rfl, rfl, by omega, by omega, by omega, by omega, fun h39 => ?_⟩
 unfold decP at hP
 simp only at hP
 omega
theorem dec_nop {x : Int} (h : decZ (IntKind.wrap .u32 x) 0 = 42) : decZ (IntKind.wrap .u32 x) 1 = 0 ∧ decZ (IntKind.wrap .u32 x) 2 = 0 ∧ decZ (IntKind.wrap .u32 x) 3 = 0 ∧ decZ (IntKind.wrap .u32 x) 4 = 0 := by
 obtain ⟨w0, w1⟩ := wu_bd x
 generalize IntKind.wrap .u32 x = w at *
 have e2 : w % 4294967296 = w := by omega
 have hP : decP w := by
  by_cases e : decP w
  ·exact e
  ·exfalso
   unfold decZ at h
   simp [e2, e] at h
 have h0 : decZ w 0 = w / 67108864 := by unfold decZ; simp [e2, hP]
 have h1 : decZ w 1 = w / 2097152 % 32 := by unfold decZ; simp [e2, hP]
 have h2 : decZ w 2 = w / 65536 % 32 := by unfold decZ; simp [e2, hP]
 have h3 : decZ w 3 = if w / 67108864 ≤ 23 then w / 2048 % 32 else 0 := by unfold decZ; simp [e2, hP]
 have h4 : decZ w 4 = decN w := by unfold decZ; simp [e2, hP]
 rw [h0] at h
 have hN : decN w = 0 := by
  unfold decN
  simp only
  rw [if_pos (by omega)]
 rw [h1, h2, h3, h4, hN, if_neg (by omega)]
 unfold decP at hP
 simp only at hP
 omega
open Classical in
theorem qKq {c n : Int} {p : Nat} : plcF c n (p + 1) = plcF c n p ++ if styP c n p then [(p : Int)] else [] := by
 unfold plcF
 rw [List.range_succ, List.filter_append, List.map_append]
 congr 1
 by_cases e : styP c n p <;> simp [e]
theorem plcF_mem {c n : Int} {k : Nat} {x : Int} (h : x ∈ plcF c n k) : ∃ p : Nat, x = p ∧ p < k ∧ styP c n p := by
 unfold plcF at h
 obtain ⟨p, hp, rfl⟩ := List.mem_map.1 h
 obtain ⟨h1, h2⟩ := List.mem_filter.1 hp
 exact ⟨p, rfl, List.mem_range.1 h1, by simpa using h2⟩
theorem plcF_rise (c n : Int) (k : Nat) : (plcF c n k).Pairwise (· < ·) := by
 unfold plcF
 refine List.pairwise_map.2 (List.Pairwise.sublist List.filter_sublist (List.pairwise_lt_range.imp ?_))
 intro a b h
 omega
theorem plc_at {c n k : Int} (hn : n ≤ 1000) (h0 : 0 ≤ k) (h1 : k < plcN c n) : ∃ p : Nat, (plcF c n n.toNat)[k.toNat]? = some (p : Int) ∧ IntKind.wrap .i64 (rdZ (plcZ c n) k) = p ∧ (p : Int) < n ∧ styP c n p := by
 have e2 : min n.toNat 1000 = n.toNat := by omega
 unfold plcN at h1
 rw [e2] at h1
 have hk : k.toNat < (plcF c n n.toNat).length := by omega
 obtain ⟨p, e, hp, hs⟩ := plcF_mem (List.getElem_mem hk)
 have hr : rdZ (plcZ c n) k = (p : Int) := by
  unfold plcZ rdZ
  rw [e2, qKw, List.getD_eq_getElem?_getD, List.getElem?_eq_getElem hk]
  exact e
 refine ⟨p, by rw [List.getElem?_eq_getElem hk, e], ?_, by omega, hs⟩
 rw [hr]; exact w64 (by omega) (by omega)
theorem plc_rise {c n : Int} (hn : n ≤ 1000) : rseZ (plcZ c n) (plcN c n) ≠ 0 := by
 unfold rseZ
 rw [if_pos]
 ·decide
 ·intro i j hij hj
  obtain ⟨p, hp, e1, _⟩ := plc_at (c := c) hn (Int.natCast_nonneg i) (by omega)
  obtain ⟨q, hq, e2, _⟩ := plc_at (c := c) hn (Int.natCast_nonneg j) hj
  rw [e1, e2]
  rw [Int.toNat_natCast] at hp hq
  obtain ⟨hi', ei⟩ := List.getElem?_eq_some_iff.1 hp
  obtain ⟨hj', ej⟩ := List.getElem?_eq_some_iff.1 hq
  have := List.pairwise_iff_getElem.1 (plcF_rise c n n.toNat) i j hi' hj' hij
  rw [ei, ej] at this
  exact this
def cltF (c t : Int) (k : Nat) : Int := ((List.range k).filter fun (i : Nat) => decide (IntKind.wrap .i64 (rdZ c i) < t)).length
theorem cltF_next {c t : Int} {k : Nat} : cltF c t (k + 1) = cltF c t k + if IntKind.wrap .i64 (rdZ c k) < t then 1 else 0 := by
 unfold cltF
 rw [List.range_succ, List.filter_append, List.length_append]
 by_cases e : IntKind.wrap .i64 (rdZ c k) < t <;> simp [e]
theorem cltF_le (c t : Int) (k : Nat) : 0 ≤ cltF c t k ∧ cltF c t k ≤ k := by
 unfold cltF
 have := List.length_filter_le (fun (i : Nat) => decide (IntKind.wrap .i64 (rdZ c i) < t)) (List.range k)
 rw [List.length_range] at this
 omega
theorem cltZ_eq {c n t : Int} (h1 : n ≤ 1000000) : cltZ c n t = cltF c t n.toNat := by
 unfold cltZ cltF
 rw [show min n.toNat 1000000 = n.toNat by omega]
theorem clt_split {c n t i : Int} (hn : n ≤ 1000000) (i0 : 0 ≤ i) (i1 : i ≤ n) (hl : ∀ j : Nat, (j : Int) < i → IntKind.wrap .i64 (rdZ c j) < t) (hg : ∀ j : Nat, i ≤ j → (j : Int) < n → ¬IntKind.wrap .i64 (rdZ c j) < t) : cltZ c n t = i := by
 rw [cltZ_eq hn]
 have key : ∀ k : Nat, (k : Int) ≤ n → cltF c t k = min (k : Int) i := fun k => by
  induction k with
  | zero => intro _; simp [cltF]; omega
  | succ k ih =>
   intro hk
   rw [cltF_next, ih (by omega)]
   by_cases e : (k : Int) < i
   ·rw [if_pos (hl k e)]; omega
   ·rw [if_neg (hg k (by omega) (by omega))]; omega
 rw [key n.toNat (by omega)]
 omega
theorem clt_le {c n t : Int} (h0 : 0 ≤ n) (hn : n ≤ 1000000) : 0 ≤ cltZ c n t ∧ cltZ c n t ≤ n := by
 rw [cltZ_eq hn]
 have := cltF_le c t n.toNat
 omega
theorem slm_br {c n p y0 y1 y2 y3 y4 : Int} (e0 : y0 = decZ (IntKind.wrap .u32 (rdZ c p)) 0) (e1 : y1 = decZ (IntKind.wrap .u32 (rdZ c p)) 1) (e2 : y2 = decZ (IntKind.wrap .u32 (rdZ c p)) 2) (e3 : y3 = decZ (IntKind.wrap .u32 (rdZ c p)) 3) (e4 : y4 = decZ (IntKind.wrap .u32 (rdZ c p)) 4)
  (h : 36 ≤ y0 ∧ y0 ≤ 39) :
  (cltZ (plcZ c n) (plcN c n) y4 = plcN c n → cckZ y0 y1 (qQq y2 (qQq y3 (qQq 65535 0))) = 0 ∧ IntKind.wrap .u32 (y0 * 67108864 + y1 * 2097152 + y2 * 65536 + 65535) = slmW c n p) ∧
  (cltZ (plcZ c n) (plcN c n) y4 ≠ plcN c n → cckZ y0 y1 (qQq y2 (qQq y3 (qQq (cltZ (plcZ c n) (plcN c n) y4) 0))) = 0 ∧ IntKind.wrap .u32 (y0 * 67108864 + y1 * 2097152 + y2 * 65536 + cltZ (plcZ c n) (plcN c n) y4) = slmW c n p) := by
 obtain ⟨f5, f3, fw, f1, f2, f4, f39⟩ := dec_br (x := rdZ c p) (by rw [← e0]; exact h)
 have hb := qKd c n
 have hk := clt_le (c := plcZ c n) (t := y4) hb.1 (by omega : plcN c n ≤ 1000000)
 have hw := wu_bd (rdZ c p)
 have hW : slmW c n p = y0 * 67108864 + y1 * 2097152 + y2 * 65536 + (if cltZ (plcZ c n) (plcN c n) y4 < plcN c n then cltZ (plcZ c n) (plcN c n) y4 else 65535) := by
  unfold slmW nwpZ
  rw [← e0, ← e4, if_pos (by omega), fw, ← e0, ← e1, ← e2]
 rw [← e3] at f3
 rw [← e1] at f1
 rw [← e2] at f2
 rw [← e0, ← e1, ← e2] at f39
 have hwr : ∀ x : Int, 0 ≤ x → x ≤ 65535 → IntKind.wrap .u32 (y0 * 67108864 + y1 * 2097152 + y2 * 65536 + x) = y0 * 67108864 + y1 * 2097152 + y2 * 65536 + x := fun x x0 x1 => by
  rw [wu32]; omega
 have hck : ∀ x : Int, 0 ≤ x → x ≤ 65535 → cckZ y0 y1 (qQq y2 (qQq y3 (qQq x 0))) = 0 := fun x x0 x1 => by
  rw [cckZ_I, f3]
  by_cases g : y0 = 39
  ·obtain ⟨d1, d2⟩ := f39 g
   rw [cck_5 g, d1, d2]
   simp
   omega
  ·rw [cck_3 (by omega)]
   simp
   omega
 refine ⟨fun e => ⟨hck _ (by omega) (by omega), ?_⟩, fun e => ⟨hck _ hk.1 (by omega), ?_⟩⟩
 ·rw [hwr _ (by omega) (by omega), hW, if_neg (by omega)]
 ·rw [hwr _ hk.1 (by omega), hW, if_pos (by omega)]
theorem slm_no {c n p y0 : Int} (e0 : y0 = decZ (IntKind.wrap .u32 (rdZ c p)) 0) (h : ¬(y0 = 36 ∨ y0 = 37 ∨ y0 = 38 ∨ y0 = 39)) : slmW c n p = IntKind.wrap .u32 (rdZ c p) := by
 unfold slmW
 rw [← e0, if_neg h]
theorem slmE_ne {c n : Int} : slmE c n ≠ 0 ↔ ∃ p : Nat, (p : Int) < n ∧ Way (nxf c n) (fun _ => False) 0 p ∧ (decZ (IntKind.wrap .u32 (rdZ c p)) 0 = 40 ∨ decZ (IntKind.wrap .u32 (rdZ c p)) 0 = 41) := by
 unfold slmE
 split
 ·rename_i h; simp [h]
 ·rename_i h; simp [h]
theorem RwK.snoc {k : IntKind} {q n x y : Int} {L : List Int} (h : RwK k q L) (hn : n = L.length) (hy : k.wrap x = y) : RwK k (updZ q n x) (L ++ [y]) := by
 intro j hj
 rw [qZf, hn, Int.toNat_natCast, Int.toNat_natCast]
 rw [List.length_append, List.length_singleton] at hj
 rw [List.getD_eq_getElem?_getD]
 by_cases he : j = L.length
 ·subst he
  rw [if_pos rfl, hy]
  simp
 ·rw [if_neg he, h j (by omega), List.getElem?_append_left (by omega), List.getD_eq_getElem?_getD]
structure SlI (c n : Int) (p : Nat) (q l : Int) : Prop where
 row : RwK .u32 q ((plcF c n p).map fun x => IntKind.wrap .u32 (slmW c n x))
 len : l = (plcF c n p).length
 no : ∀ x : Nat, x < p → Way (nxf c n) (fun _ => False) 0 x → decZ (IntKind.wrap .u32 (rdZ c x)) 0 ≠ 40 ∧ decZ (IntKind.wrap .u32 (rdZ c x)) 0 ≠ 41
theorem SlI.zero {c n q : Int} : SlI c n 0 q 0 := ⟨fun i hi => by simp [plcF] at hi, by simp [plcF], fun x hx => by omega⟩
theorem SlI.skip {c n q l : Int} {p : Nat} (h : SlI c n p q l) (hs : ¬styP c n p) (hj : Way (nxf c n) (fun _ => False) 0 p → decZ (IntKind.wrap .u32 (rdZ c p)) 0 = 42) : SlI c n (p + 1) q l := by
 have hnx := qKq (c := c) (n := n) (p := p)
 rw [if_neg hs, List.append_nil] at hnx
 refine ⟨by rw [hnx]; exact h.row, by rw [hnx]; exact h.len, fun x hx hw => ?_⟩
 by_cases e : x = p
 ·subst e
  have := hj hw
  omega
 ·exact h.no x (by omega) hw
theorem SlI.put {c n q l w : Int} {p : Nat} (h : SlI c n p q l) (hs : styP c n p) (hj : decZ (IntKind.wrap .u32 (rdZ c p)) 0 ≠ 40 ∧ decZ (IntKind.wrap .u32 (rdZ c p)) 0 ≠ 41) (hw : IntKind.wrap .u32 w = IntKind.wrap .u32 (slmW c n p)) : SlI c n (p + 1) (updZ q l w) (l + 1) := by
 have hnx := qKq (c := c) (n := n) (p := p)
 rw [if_pos hs] at hnx
 refine ⟨?_, ?_, fun x hx hw => ?_⟩
 ·rw [hnx, List.map_append]
  exact h.row.snoc (by rw [List.length_map]; exact h.len) hw
 ·rw [hnx, List.length_append, List.length_singleton, h.len]; rfl
 ·by_cases e : x = p
  ·subst e; exact hj
  ·exact h.no x (by omega) hw
theorem slmW_w (c n p : Int) : IntKind.wrap .u32 (slmW c n p) = slmW c n p := by
 by_cases h : 36 ≤ decZ (IntKind.wrap .u32 (rdZ c p)) 0 ∧ decZ (IntKind.wrap .u32 (rdZ c p)) 0 ≤ 39
 ·obtain ⟨g1, g2⟩ := slm_br (n := n) rfl rfl rfl rfl rfl h
  by_cases e : cltZ (plcZ c n) (plcN c n) (decZ (IntKind.wrap .u32 (rdZ c p)) 4) = plcN c n
  ·rw [← (g1 e).2]; exact wrap_wrap _ _ _ (by exact Nat.le_refl _)
  ·rw [← (g2 e).2]; exact wrap_wrap _ _ _ (by exact Nat.le_refl _)
 ·rw [slm_no rfl (by omega)]
  exact wrap_wrap _ _ _ (by exact Nat.le_refl _)
theorem SlI.fin {c n q l : Int} (hn : n ≤ 1000) (h0 : 0 ≤ n) (h : SlI c n n.toNat q l) : slmE c n = 0 ∧ l = plcN c n ∧ qQy [.int .u32] q (slmZ c n) l := by
 have e2 : min n.toNat 1000 = n.toNat := by omega
 refine ⟨Classical.byContradiction fun g => ?_, ?_, ?_⟩
 ·obtain ⟨p, hp, hw, hk⟩ := slmE_ne.1 g
  have := h.no p (by omega) hw
  omega
 ·unfold plcN; rw [e2]; exact h.len
 ·unfold slmZ
  rw [e2]
  have := h.row
  simp only [slmW_w] at this
  exact this.eq (by rw [List.length_map, h.len]; exact Int.le_refl _)
structure SlD (c n k q l : Int) : Prop where
 row : Rw q (((plcF c n n.toNat).take k.toNat).map fun x => slmW c n x)
 len : l = k
theorem SlD.zero {c n q : Int} : SlD c n 0 q 0 := ⟨fun i hi => by simp at hi, rfl⟩
theorem SlD.put {c n k q l w : Int} {p : Nat} (h : SlD c n k q l) (hn : n ≤ 1000) (h0 : 0 ≤ k) (h1 : k < plcN c n) (hp : (plcF c n n.toNat)[k.toNat]? = some (p : Int)) (hw : w = slmW c n p) : SlD c n (k + 1) (updZ q l w) (l + 1) := by
 refine ⟨?_, by rw [h.len]⟩
 rw [show (k + 1).toNat = k.toNat + 1 by omega, List.take_add_one, hp, List.map_append]
 have hl := (List.getElem?_eq_some_iff.1 hp).1
 have := h.row.snoc (x := w) (n := l) (by rw [h.len, List.length_map, List.length_take]; omega)
 rw [hw] at this
 rw [hw]
 exact this
theorem SlD.fin {c n k q l : Int} (hn : n ≤ 1000) (h0 : 0 ≤ k) (h : SlD c n k q l) (h1 : k = plcN c n) : l = plcN c n ∧ sameW (slmZ c n) q (plcN c n) = 1 := by
 have e2 : min n.toNat 1000 = n.toNat := by omega
 refine ⟨h.len.trans h1, ?_⟩
 have hN : plcN c n = (plcF c n n.toNat).length := by unfold plcN; rw [e2]
 have hr := h.row
 rw [List.take_of_length_le (by omega)] at hr
 unfold sameW
 rw [if_pos]
 intro i hi
 unfold slmZ
 rw [e2, hr i (by rw [List.length_map]; omega), Rw.lz _ i (by rw [List.length_map]; omega)]
end Go.Eng
end
/-!  -/
noncomputable section
namespace Go.Eng
def qS : Int := qQq 2818572288 (qQq 2617245699 (qQq 2885681152 (qQq 2818572288 (qQq 2418016256 (qQq 2885681152 0)))))
theorem lz_cons (a : Int) (l : List Int) : qQq a (LZ l) = LZ (a :: l) := by unfold qQq; rw [qKw]
theorem qS_lz : qS = LZ [2818572288, 2617245699, 2885681152, 2818572288, 2418016256, 2885681152] := by
 unfold qS
 rw [← nx_z0]
 simp only [lz_cons]
theorem qS_at : rdZ qS 0 = 2818572288 ∧ rdZ qS 1 = 2617245699 ∧ rdZ qS 2 = 2885681152 ∧ rdZ qS 3 = 2818572288 ∧ rdZ qS 4 = 2418016256 ∧ rdZ qS 5 = 2885681152 := by
 rw [qS_lz]
 refine ⟨?_, ?_, ?_, ?_, ?_, ?_⟩ <;> (unfold rdZ; rw [qKw]; rfl)
theorem sw_0 : decZ (IntKind.wrap .u32 (rdZ qS (0 : Nat))) 0 = 42 := by rw [show ((0 : Nat) : Int) = 0 from rfl, qS_at.1]; decide
theorem sw_1 : decZ (IntKind.wrap .u32 (rdZ qS (1 : Nat))) 0 = 39 := by rw [show ((1 : Nat) : Int) = 1 from rfl, qS_at.2.1]; decide
theorem sw_3 : decZ (IntKind.wrap .u32 (rdZ qS (3 : Nat))) 0 = 42 := by rw [show ((3 : Nat) : Int) = 3 from rfl, qS_at.2.2.2.1]; decide
theorem sw_4 : decZ (IntKind.wrap .u32 (rdZ qS (4 : Nat))) 0 = 36 := by rw [show ((4 : Nat) : Int) = 4 from rfl, qS_at.2.2.2.2.1]; decide
theorem sw_5 : decZ (IntKind.wrap .u32 (rdZ qS (5 : Nat))) 0 = 43 := by rw [show ((5 : Nat) : Int) = 5 from rfl, qS_at.2.2.2.2.2]; decide
theorem sw_14 : decZ (IntKind.wrap .u32 (rdZ qS (1 : Nat))) 4 = 3 := by rw [show ((1 : Nat) : Int) = 1 from rfl, qS_at.2.1]; decide
theorem sw_44 : decZ (IntKind.wrap .u32 (rdZ qS (4 : Nat))) 4 = 0 := by rw [show ((4 : Nat) : Int) = 4 from rfl, qS_at.2.2.2.2.1]; decide
theorem sn_0 : nxf qS 6 0 = [1] := by
 unfold nxf; rw [nxL_in (by omega) (by omega) sw_0.symm rfl, nxC_3 (by omega) (by omega) (by omega)]; simp
theorem sn_1 : nxf qS 6 1 = [3] := by
 unfold nxf; rw [nxL_in (by omega) (by omega) sw_1.symm sw_14.symm, nxC_1 (by omega)]; simp
theorem sn_3 : nxf qS 6 3 = [4] := by
 unfold nxf; rw [nxL_in (by omega) (by omega) sw_3.symm rfl, nxC_3 (by omega) (by omega) (by omega)]; simp
theorem sn_4 : nxf qS 6 4 = [0, 5] := by
 unfold nxf; rw [nxL_in (by omega) (by omega) sw_4.symm sw_44.symm, nxC_2 (by omega)]; unfold go2; simp
theorem sn_5 : nxf qS 6 5 = [] := by
 unfold nxf; rw [nxL_in (by omega) (by omega) sw_5.symm rfl, nxC_0 (by omega)]; rfl
theorem sr_0 : Way (nxf qS 6) (fun _ => False) 0 0 := .here id
theorem sr_1 : Way (nxf qS 6) (fun _ => False) 0 1 := sr_0.on (by rw [sn_0]; simp) id
theorem sr_3 : Way (nxf qS 6) (fun _ => False) 0 3 := sr_1.on (by rw [sn_1]; simp) id
theorem sr_4 : Way (nxf qS 6) (fun _ => False) 0 4 := sr_3.on (by rw [sn_3]; simp) id
theorem sr_5 : Way (nxf qS 6) (fun _ => False) 0 5 := sr_4.on (by rw [sn_4]; simp) id
theorem sr_all {x : Nat} (h : Way (nxf qS 6) (fun _ => False) 0 x) : x = 0 ∨ x = 1 ∨ x = 3 ∨ x = 4 ∨ x = 5 := by
 refine h.least (S := fun x => x = 0 ∨ x = 1 ∨ x = 3 ∨ x = 4 ∨ x = 5) (.inl rfl) fun b c hb hc _ => ?_
 rcases hb with rfl | rfl | rfl | rfl | rfl
 ·rw [sn_0] at hc; simp at hc; omega
 ·rw [sn_1] at hc; simp at hc; omega
 ·rw [sn_3] at hc; simp at hc; omega
 ·rw [sn_4] at hc; simp at hc; omega
 ·rw [sn_5] at hc; cases hc
theorem ss_plc : plcF qS 6 6 = [1, 4, 5] := by
 classical
 have e : List.range 6 = [0, 1, 2, 3, 4, 5] := rfl
 have h0 : ¬styP qS 6 0 := fun h => h.2 sw_0
 have h1 : styP qS 6 1 := ⟨sr_1, by rw [sw_1]; omega⟩
 have h2 : ¬styP qS 6 2 := fun h => by have := sr_all h.1; omega
 have h3 : ¬styP qS 6 3 := fun h => h.2 sw_3
 have h4 : styP qS 6 4 := ⟨sr_4, by rw [sw_4]; omega⟩
 have h5 : styP qS 6 5 := ⟨sr_5, by rw [sw_5]; omega⟩
 unfold plcF
 rw [e]
 simp [h0, h1, h2, h3, h4, h5]
theorem ss_min : min ((6 : Int)).toNat 1000 = 6 := rfl
theorem ss_N : plcN qS 6 = 3 := by unfold plcN; rw [ss_min, ss_plc]; rfl
theorem ss_Z : plcZ qS 6 = LZ [1, 4, 5] := by unfold plcZ; rw [ss_min, ss_plc]
theorem ss_rd : rdZ (LZ [1, 4, 5]) 0 = 1 ∧ rdZ (LZ [1, 4, 5]) 1 = 4 ∧ rdZ (LZ [1, 4, 5]) 2 = 5 := by
 refine ⟨?_, ?_, ?_⟩ <;> (unfold rdZ; rw [qKw]; rfl)
theorem ss_c3 : cltZ (LZ [1, 4, 5]) 3 3 = 1 := by
 obtain ⟨r0, r1, r2⟩ := ss_rd
 refine clt_split (by omega) (by omega) (by omega) (fun j hj => ?_) (fun j h1 h2 => ?_)
 ·rw [show (j : Int) = 0 by omega, r0]; decide
 ·rcases (by omega : (j : Int) = 1 ∨ (j : Int) = 2) with e | e
  ·rw [e, r1]; decide
  ·rw [e, r2]; decide
theorem ss_c0 : cltZ (LZ [1, 4, 5]) 3 0 = 0 := by
 obtain ⟨r0, r1, r2⟩ := ss_rd
 refine clt_split (by omega) (by omega) (by omega) (fun j hj => by omega) (fun j h1 h2 => ?_)
 rcases (by omega : (j : Int) = 0 ∨ (j : Int) = 1 ∨ (j : Int) = 2) with e | e | e
 ·rw [e, r0]; decide
 ·rw [e, r1]; decide
 ·rw [e, r2]; decide
theorem ss_w1 : slmW qS 6 1 = 2617245697 := by
 have h0 := sw_1
 have h4 := sw_14
 rw [show ((1 : Nat) : Int) = 1 from rfl] at h0 h4
 unfold slmW nwpZ
 rw [h0, h4, if_pos (by omega), ss_N, ss_Z, ss_c3, qS_at.2.1]
 decide
theorem ss_w4 : slmW qS 6 4 = 2418016256 := by
 have h0 := sw_4
 have h4 := sw_44
 rw [show ((4 : Nat) : Int) = 4 from rfl] at h0 h4
 unfold slmW nwpZ
 rw [h0, h4, if_pos (by omega), ss_N, ss_Z, ss_c0, qS_at.2.2.2.2.1]
 decide
theorem ss_w5 : slmW qS 6 5 = 2885681152 := by
 have h0 := sw_5
 rw [show ((5 : Nat) : Int) = 5 from rfl] at h0
 rw [slm_no h0.symm (by omega), qS_at.2.2.2.2.2]
 decide
theorem ss_slm : slmZ qS 6 = LZ [2617245697, 2418016256, 2885681152] := by
 unfold slmZ
 rw [ss_min, ss_plc]
 simp only [List.map_cons, List.map_nil, ss_w1, ss_w4, ss_w5]
theorem ss_srd : rdZ (slmZ qS 6) 0 = 2617245697 ∧ rdZ (slmZ qS 6) 1 = 2418016256 ∧ rdZ (slmZ qS 6) 2 = 2885681152 := by
 rw [ss_slm]
 refine ⟨?_, ?_, ?_⟩ <;> (unfold rdZ; rw [qKw]; rfl)
theorem ss_E : slmE qS 6 = 0 := Classical.byContradiction fun g => by
 obtain ⟨p, hp, hw, hk⟩ := slmE_ne.1 g
 rcases sr_all hw with rfl | rfl | rfl | rfl | rfl
 ·have := sw_0; omega
 ·have := sw_1; omega
 ·have := sw_3; omega
 ·have := sw_4; omega
 ·have := sw_5; omega
end Go.Eng
end
