/-
  Parts of the engine, a program's symbolic run, proved sound; and of plain laws.
-/
import Derived.Test.YtppkkgicidagmabGreatDoorGp3
import Derived.Test.YtppkkgicidagmabGreatDoorGp2
set_option linter.unusedVariables false
set_option linter.unusedSimpArgs false
/-!  -/
noncomputable section
namespace Go.Eng
theorem wu_bd (x : Int) : 0 ≤ IntKind.wrap .u32 x ∧ IntKind.wrap .u32 x ≤ 4294967295 := by
 have := qXm .u32 x
 have b1 : klo .u32 = 0 := by decide
 have b2 : khi .u32 = 4294967295 := by decide
 omega
theorem dec_br {x : Int} (h : 36 ≤ decZ (IntKind.wrap .u32 x) 0 ∧ decZ (IntKind.wrap .u32 x) 0 ≤ 39) :
  decZ (IntKind.wrap .u32 x) 5 = 0 ∧ decZ (IntKind.wrap .u32 x) 3 = 0 ∧
  IntKind.wrap .u32 x / 65536 * 65536 = decZ (IntKind.wrap .u32 x) 0 * 67108864 + decZ (IntKind.wrap .u32 x) 1 * 2097152 + decZ (IntKind.wrap .u32 x) 2 * 65536 ∧
  (0 ≤ decZ (IntKind.wrap .u32 x) 1 ∧ decZ (IntKind.wrap .u32 x) 1 < 32) ∧ (0 ≤ decZ (IntKind.wrap .u32 x) 2 ∧ decZ (IntKind.wrap .u32 x) 2 < 32) ∧ (0 ≤ decZ (IntKind.wrap .u32 x) 4 ∧ decZ (IntKind.wrap .u32 x) 4 ≤ 65535) ∧
  (decZ (IntKind.wrap .u32 x) 0 = 39 → decZ (IntKind.wrap .u32 x) 1 = 0 ∧ decZ (IntKind.wrap .u32 x) 2 = 0) := by
 obtain ⟨w0, w1⟩ := wu_bd x
 generalize IntKind.wrap .u32 x = w at *
 have e2 : w % 4294967296 = w := by omega
 have hP : decP w := by
  by_cases e : decP w
  ·exact e
  ·exfalso
   unfold decZ at h
   simp [e2, e] at h
 have h0 : decZ w 0 = w / 67108864 := by unfold decZ; simp [e2, hP]
 have h1 : decZ w 1 = w / 2097152 % 32 := by unfold decZ; simp [e2, hP]
 have h2 : decZ w 2 = w / 65536 % 32 := by unfold decZ; simp [e2, hP]
 have h3 : decZ w 3 = if w / 67108864 ≤ 23 then w / 2048 % 32 else 0 := by unfold decZ; simp [e2, hP]
 have h4 : decZ w 4 = decN w := by unfold decZ; simp [e2, hP]
 have h5 : decZ w 5 = 0 := by unfold decZ; simp [e2, hP]
 rw [h0] at h
 have hN : decN w = w % 65536 := by
  unfold decN
  simp only
  rw [if_neg (by omega), if_neg (by omega)]
 rw [h0, h1, h2, h3, h4, h5, hN, if_neg (by omega)]
 refine ⟨rfl, rfl, by omega, by omega, by omega, by omega, fun h39 => ?_⟩
 unfold decP at hP
 simp only at hP
 omega
open Classical in
theorem plcF_next {c n : Int} {p : Nat} : plcF c n (p + 1) = plcF c n p ++ if styP c n p then [(p : Int)] else [] := by
 unfold plcF
 rw [List.range_succ, List.filter_append, List.map_append]
 congr 1
 by_cases e : styP c n p <;> simp [e]
def cltF (c t : Int) (k : Nat) : Int := ((List.range k).filter fun (i : Nat) => decide (IntKind.wrap .i64 (rdZ c i) < t)).length
theorem cltF_le (c t : Int) (k : Nat) : 0 ≤ cltF c t k ∧ cltF c t k ≤ k := by
 unfold cltF
 have := List.length_filter_le (fun (i : Nat) => decide (IntKind.wrap .i64 (rdZ c i) < t)) (List.range k)
 rw [List.length_range] at this
 omega
theorem cltZ_eq {c n t : Int} (h1 : n ≤ 1000000) : cltZ c n t = cltF c t n.toNat := by
 unfold cltZ cltF
 rw [show min n.toNat 1000000 = n.toNat by omega]
theorem clt_le {c n t : Int} (h0 : 0 ≤ n) (hn : n ≤ 1000000) : 0 ≤ cltZ c n t ∧ cltZ c n t ≤ n := by
 rw [cltZ_eq hn]
 have := cltF_le c t n.toNat
 omega
theorem slm_br {c n p y0 y1 y2 y3 y4 : Int} (e0 : y0 = decZ (IntKind.wrap .u32 (rdZ c p)) 0) (e1 : y1 = decZ (IntKind.wrap .u32 (rdZ c p)) 1) (e2 : y2 = decZ (IntKind.wrap .u32 (rdZ c p)) 2) (e3 : y3 = decZ (IntKind.wrap .u32 (rdZ c p)) 3) (e4 : y4 = decZ (IntKind.wrap .u32 (rdZ c p)) 4)
  (h : 36 ≤ y0 ∧ y0 ≤ 39) :
  (cltZ (plcZ c n) (plcN c n) y4 = plcN c n → cckZ y0 y1 (qQq y2 (qQq y3 (qQq 65535 0))) = 0 ∧ IntKind.wrap .u32 (y0 * 67108864 + y1 * 2097152 + y2 * 65536 + 65535) = slmW c n p) ∧
  (cltZ (plcZ c n) (plcN c n) y4 ≠ plcN c n → cckZ y0 y1 (qQq y2 (qQq y3 (qQq (cltZ (plcZ c n) (plcN c n) y4) 0))) = 0 ∧ IntKind.wrap .u32 (y0 * 67108864 + y1 * 2097152 + y2 * 65536 + cltZ (plcZ c n) (plcN c n) y4) = slmW c n p) := by
 obtain ⟨f5, f3, fw, f1, f2, f4, f39⟩ := dec_br (x := rdZ c p) (by rw [← e0]; exact h)
 have hb := plcN_bd c n
 have hk := clt_le (c := plcZ c n) (t := y4) hb.1 (by omega : plcN c n ≤ 1000000)
 have hw := wu_bd (rdZ c p)
 have hW : slmW c n p = y0 * 67108864 + y1 * 2097152 + y2 * 65536 + (if cltZ (plcZ c n) (plcN c n) y4 < plcN c n then cltZ (plcZ c n) (plcN c n) y4 else 65535) := by
  unfold slmW nwpZ
  rw [← e0, ← e4, if_pos (by omega), fw, ← e0, ← e1, ← e2]
 rw [← e3] at f3
 rw [← e1] at f1
 rw [← e2] at f2
 rw [← e0, ← e1, ← e2] at f39
 have hwr : ∀ x : Int, 0 ≤ x → x ≤ 65535 → IntKind.wrap .u32 (y0 * 67108864 + y1 * 2097152 + y2 * 65536 + x) = y0 * 67108864 + y1 * 2097152 + y2 * 65536 + x := fun x x0 x1 => by
  rw [wu32]; omega
 have hck : ∀ x : Int, 0 ≤ x → x ≤ 65535 → cckZ y0 y1 (qQq y2 (qQq y3 (qQq x 0))) = 0 := fun x x0 x1 => by
  rw [cckZ_I, f3]
  by_cases g : y0 = 39
  ·obtain ⟨d1, d2⟩ := f39 g
   rw [cck_5 g, d1, d2]
   simp
   omega
  ·rw [cck_3 (by omega)]
   simp
   omega
 refine ⟨fun e => ⟨hck _ (by omega) (by omega), ?_⟩, fun e => ⟨hck _ hk.1 (by omega), ?_⟩⟩
 ·rw [hwr _ (by omega) (by omega), hW, if_neg (by omega)]
 ·rw [hwr _ hk.1 (by omega), hW, if_pos (by omega)]
theorem slm_no {c n p y0 : Int} (e0 : y0 = decZ (IntKind.wrap .u32 (rdZ c p)) 0) (h : ¬(y0 = 36 ∨ y0 = 37 ∨ y0 = 38 ∨ y0 = 39)) : slmW c n p = IntKind.wrap .u32 (rdZ c p) := by
 unfold slmW
 rw [← e0, if_neg h]
theorem slmE_ne {c n : Int} : slmE c n ≠ 0 ↔ ∃ p : Nat, (p : Int) < n ∧ Way (nxf c n) (fun _ => False) 0 p ∧ (decZ (IntKind.wrap .u32 (rdZ c p)) 0 = 40 ∨ decZ (IntKind.wrap .u32 (rdZ c p)) 0 = 41) := by
 unfold slmE
 split
 ·rename_i h; simp [h]
 ·rename_i h; simp [h]
theorem RwK.snoc {k : IntKind} {q n x y : Int} {L : List Int} (h : RwK k q L) (hn : n = L.length) (hy : k.wrap x = y) : RwK k (updZ q n x) (L ++ [y]) := by
 intro j hj
 rw [qZr, hn, Int.toNat_natCast, Int.toNat_natCast]
 rw [List.length_append, List.length_singleton] at hj
 rw [List.getD_eq_getElem?_getD]
 by_cases he : j = L.length
 ·subst he
  rw [if_pos rfl, hy]
  simp
 ·rw [if_neg he, h j (by omega), List.getElem?_append_left (by omega), List.getD_eq_getElem?_getD]
structure SlI (c n : Int) (p : Nat) (q l : Int) : Prop where
 row : RwK .u32 q ((plcF c n p).map fun x => IntKind.wrap .u32 (slmW c n x))
 len : l = (plcF c n p).length
 no : ∀ x : Nat, x < p → Way (nxf c n) (fun _ => False) 0 x → decZ (IntKind.wrap .u32 (rdZ c x)) 0 ≠ 40 ∧ decZ (IntKind.wrap .u32 (rdZ c x)) 0 ≠ 41
theorem SlI.zero {c n q : Int} : SlI c n 0 q 0 := ⟨fun i hi => by simp [plcF] at hi, by simp [plcF], fun x hx => by omega⟩
theorem SlI.skip {c n q l : Int} {p : Nat} (h : SlI c n p q l) (hs : ¬styP c n p) (hj : Way (nxf c n) (fun _ => False) 0 p → decZ (IntKind.wrap .u32 (rdZ c p)) 0 = 42) : SlI c n (p + 1) q l := by
 have hnx := plcF_next (c := c) (n := n) (p := p)
 rw [if_neg hs, List.append_nil] at hnx
 refine ⟨by rw [hnx]; exact h.row, by rw [hnx]; exact h.len, fun x hx hw => ?_⟩
 by_cases e : x = p
 ·subst e
  have := hj hw
  omega
 ·exact h.no x (by omega) hw
theorem SlI.put {c n q l w : Int} {p : Nat} (h : SlI c n p q l) (hs : styP c n p) (hj : decZ (IntKind.wrap .u32 (rdZ c p)) 0 ≠ 40 ∧ decZ (IntKind.wrap .u32 (rdZ c p)) 0 ≠ 41) (hw : IntKind.wrap .u32 w = IntKind.wrap .u32 (slmW c n p)) : SlI c n (p + 1) (updZ q l w) (l + 1) := by
 have hnx := plcF_next (c := c) (n := n) (p := p)
 rw [if_pos hs] at hnx
 refine ⟨?_, ?_, fun x hx hw => ?_⟩
 ·rw [hnx, List.map_append]
  exact h.row.snoc (by rw [List.length_map]; exact h.len) hw
 ·rw [hnx, List.length_append, List.length_singleton, h.len]; rfl
 ·by_cases e : x = p
  ·subst e; exact hj
  ·exact h.no x (by omega) hw
theorem slmW_w (c n p : Int) : IntKind.wrap .u32 (slmW c n p) = slmW c n p := by
 by_cases h : 36 ≤ decZ (IntKind.wrap .u32 (rdZ c p)) 0 ∧ decZ (IntKind.wrap .u32 (rdZ c p)) 0 ≤ 39
 ·obtain ⟨g1, g2⟩ := slm_br (n := n) rfl rfl rfl rfl rfl h
  by_cases e : cltZ (plcZ c n) (plcN c n) (decZ (IntKind.wrap .u32 (rdZ c p)) 4) = plcN c n
  ·rw [← (g1 e).2]; exact wrap_wrap _ _ _ (by exact Nat.le_refl _)
  ·rw [← (g2 e).2]; exact wrap_wrap _ _ _ (by exact Nat.le_refl _)
 ·rw [slm_no rfl (by omega)]
  exact wrap_wrap _ _ _ (by exact Nat.le_refl _)
theorem SlI.fin {c n q l : Int} (hn : n ≤ 1000) (h0 : 0 ≤ n) (h : SlI c n n.toNat q l) : slmE c n = 0 ∧ l = plcN c n ∧ qZz [.int .u32] q (slmZ c n) l := by
 have e2 : min n.toNat 1000 = n.toNat := by omega
 refine ⟨Classical.byContradiction fun g => ?_, ?_, ?_⟩
 ·obtain ⟨p, hp, hw, hk⟩ := slmE_ne.1 g
  have := h.no p (by omega) hw
  omega
 ·unfold plcN; rw [e2]; exact h.len
 ·unfold slmZ
  rw [e2]
  have := h.row
  simp only [slmW_w] at this
  exact this.eq (by rw [List.length_map, h.len]; exact Int.le_refl _)
structure SlD (c n k q l : Int) : Prop where
 row : Rw q (((plcF c n n.toNat).take k.toNat).map fun x => slmW c n x)
 len : l = k
theorem SlD.zero {c n q : Int} : SlD c n 0 q 0 := ⟨fun i hi => by simp at hi, rfl⟩
theorem SlD.put {c n k q l w : Int} {p : Nat} (h : SlD c n k q l) (hn : n ≤ 1000) (h0 : 0 ≤ k) (h1 : k < plcN c n) (hp : (plcF c n n.toNat)[k.toNat]? = some (p : Int)) (hw : w = slmW c n p) : SlD c n (k + 1) (updZ q l w) (l + 1) := by
 refine ⟨?_, by rw [h.len]⟩
 rw [show (k + 1).toNat = k.toNat + 1 by omega, List.take_add_one, hp, List.map_append]
 have hl := (List.getElem?_eq_some_iff.1 hp).1
 have := h.row.snoc (x := w) (n := l) (by rw [h.len, List.length_map, List.length_take]; omega)
 rw [hw] at this
 rw [hw]
 exact this
theorem SlD.fin {c n k q l : Int} (hn : n ≤ 1000) (h0 : 0 ≤ k) (h : SlD c n k q l) (h1 : k = plcN c n) : l = plcN c n ∧ sameW (slmZ c n) q (plcN c n) = 1 := by
 have e2 : min n.toNat 1000 = n.toNat := by omega
 refine ⟨h.len.trans h1, ?_⟩
 have hN : plcN c n = (plcF c n n.toNat).length := by unfold plcN; rw [e2]
 have hr := h.row
 rw [List.take_of_length_le (by omega)] at hr
 unfold sameW
 rw [if_pos]
 intro i hi
 unfold slmZ
 rw [e2, hr i (by rw [List.length_map]; omega), Rw.lz _ i (by rw [List.length_map]; omega)]
end Go.Eng
end
/-!  -/
noncomputable section
namespace Go.Eng
open Go.RowKit
theorem dec_jn {x : Int} (h : 36 ≤ decZ (IntKind.wrap .u32 x) 0 ∧ decZ (IntKind.wrap .u32 x) 0 ≤ 40) : 0 ≤ decZ (IntKind.wrap .u32 x) 4 ∧ decZ (IntKind.wrap .u32 x) 4 ≤ 65535 := by
 obtain ⟨w0, w1⟩ := wu_bd x
 generalize IntKind.wrap .u32 x = w at *
 have e2 : w % 4294967296 = w := by omega
 have hP : decP w := by
  by_cases e : decP w
  ·exact e
  ·exfalso
   unfold decZ at h
   simp [e2, e] at h
 have h0 : decZ w 0 = w / 67108864 := by unfold decZ; simp [e2, hP]
 have h4 : decZ w 4 = decN w := by unfold decZ; simp [e2, hP]
 rw [h0] at h
 have hN : decN w = w % 65536 := by
  unfold decN
  simp only
  rw [if_neg (by omega), if_neg (by omega)]
 rw [h4, hN]
 omega
theorem edg_next {c : Int} {N p : Nat} (hN : N ≤ 1000000) (hp : p < N) (h0 : opP c p ≠ 0) {e : Int × Int × Int} (he : e ∈ edgB c p) :
  ∃ t : Nat, e.1 = t ∧ t ≤ 1000000 ∧ (t < N → t ∈ nxf c N p) := by
 have h2 := dec_two (rdZ c p)
 have hop : opP c p = decZ (IntKind.wrap .u32 (rdZ c p)) 0 := rfl
 have h5 : decZ (IntKind.wrap .u32 (rdZ c p)) 5 = 0 := by omega
 have ew : IntKind.wrap .i64 ((p : Int) + 1) = p + 1 := w64 (by omega) (by omega)
 have hj := @dec_jn (rdZ c p)
 unfold edgB edgL at he
 rw [hop] at he h0
 have main : ∀ t : Int, Tg (decZ (IntKind.wrap .u32 (rdZ c p)) 0) (decZ (IntKind.wrap .u32 (rdZ c p)) 4) p t → decZ (IntKind.wrap .u32 (rdZ c p)) 0 ≠ 41 → 0 ≤ t → t ≤ 1000000 → ∃ s : Nat, t = s ∧ s ≤ 1000000 ∧ (s < N → s ∈ nxf c N p) := fun t ht h41 t0 t1 => by
  obtain ⟨s, rfl⟩ := Int.eq_ofNat_of_zero_le t0
  refine ⟨s, rfl, by omega, fun hs => ?_⟩
  have := tg_next (c := c) hN hp h5 h41 ht t0 (by omega)
  rwa [Int.toNat_natCast] at this
 have hn1 : (p : Int) + 1 = IntKind.wrap .i64 ((p : Int) + 1) := ew.symm
 split at he
 ·cases he
 split at he
 ·simp only [List.mem_cons, List.not_mem_nil, or_false] at he
  subst he
  have := hj (by omega)
  exact main _ (.inr ⟨rfl, by omega, by omega⟩) (by omega) (by dsimp only; omega) (by dsimp only; omega)
 split at he
 ·simp only [List.mem_cons, List.not_mem_nil, or_false] at he
  have := hj (by omega)
  rcases he with rfl | rfl
  ·exact main _ (.inr ⟨rfl, by omega, by omega⟩) (by omega) (by dsimp only; omega) (by dsimp only; omega)
  ·exact main _ (.inl ⟨hn1, by omega, by omega, by omega⟩) (by omega) (by dsimp only; omega) (by dsimp only; omega)
 have rest : e.1 = (p : Int) + 1 := by
  repeat' split at he
  all_goals
   simp only [List.mem_cons, List.not_mem_nil, or_false] at he
   subst he
   rfl
 rw [rest]
 exact main _ (.inl ⟨hn1, by omega, by omega, by omega⟩) (by omega) (by omega) (by omega)
open Classical in
theorem rnk_lt {c : Int} {N p t : Nat} (hN : N ≤ 64) (hc : ¬Cyc (nxf c N)) (hp : p < N) (hw : Way (nxf c N) (fun _ => False) 0 p) (ht : t ∈ nxf c N p) : rnkN c N t < rnkN c N p := by
 unfold rnkN
 rw [Int.toNat_natCast, Nat.min_eq_left hN]
 have hsub : ∀ q, Way (nxf c N) (fun _ => False) t q → Way (nxf c N) (fun _ => False) p q := fun q h => Way.front id ht h
 have hno : ¬Way (nxf c N) (fun _ => False) t p := fun h => hc ⟨p, hw, t, ht, h⟩
 obtain ⟨l1, l2, e⟩ := List.append_of_mem (List.mem_range.2 hp)
 have hmono : ∀ l : List Nat, (l.filter fun q => decide (Way (nxf c N) (fun _ => False) t q)).length ≤ (l.filter fun q => decide (Way (nxf c N) (fun _ => False) p q)).length := fun l => by
  simp only [← List.countP_eq_length_filter]
  refine List.countP_mono_left fun q _ h => ?_
  exact decide_eq_true (hsub q (of_decide_eq_true h))
 have h1 := hmono l1
 have h2 := hmono l2
 have e1 : (decide (Way (nxf c N) (fun _ => False) t p)) = false := decide_eq_false hno
 have e2 : (decide (Way (nxf c N) (fun _ => False) p p)) = true := decide_eq_true (.here id)
 rw [e]
 simp only [List.filter_append, List.length_append, List.filter_cons, e1, e2, Bool.false_eq_true, if_false, if_true, List.length_cons]
 omega
open Classical in
theorem rnk_pos {c : Int} {N p : Nat} (hN : N ≤ 64) (hp : p < N) : 1 ≤ rnkN c N p := by
 unfold rnkN
 rw [Int.toNat_natCast, Nat.min_eq_left hN]
 refine List.length_pos_of_mem (a := p) ?_
 rw [List.mem_filter]
 exact ⟨List.mem_range.2 hp, decide_eq_true (.here id)⟩
theorem qKu {α β : Type} {f g : α → β → α} : ∀ (l : List β) (a : α), (∀ b ∈ l, ∀ x, f x b = g x b) → l.foldl f a = l.foldl g a
 | [], _, _ => rfl
 | b :: l, a, h => by
  rw [List.foldl_cons, List.foldl_cons, h b (List.mem_cons_self ..)]
  exact qKu l _ fun y hy => h y (List.mem_cons_of_mem _ hy)
theorem qXr {c n p : Int} (h : ¬(0 ≤ p ∧ p < n ∧ opP c p ≠ 0)) : ∀ k, mstF c n k p = 0
 | 0 => rfl
 | k + 1 => by unfold mstF; rw [if_neg h]
theorem qXt {c n p : Int} (h : ¬(0 ≤ p ∧ p < n ∧ opP c p ≠ 0)) : ∀ k, lstF c n k p = -1
 | 0 => rfl
 | k + 1 => by unfold lstF; rw [if_neg h]
theorem mstF_in {c n p : Int} (h : 0 ≤ p ∧ p < n ∧ opP c p ≠ 0) (k : Nat) : mstF c n (k + 1) p = (edgB c p).foldl (mstU (mstF c n k)) (mstI (opP c p)) := by
 rw [mstF, if_pos h]
theorem lstF_in {c n p : Int} (h : 0 ≤ p ∧ p < n ∧ opP c p ≠ 0) (k : Nat) : lstF c n (k + 1) p = (edgB c p).foldl (lstU (lstF c n k)) (lstI (opP c p)) := by
 rw [lstF, if_pos h]
theorem sum_st {c : Int} {N : Nat} (hN : N ≤ 64) (hf : frP c N) : ∀ (r p : Nat), p < N → Way (nxf c N) (fun _ => False) 0 p → rnkN c N p ≤ r → ∀ k k', r ≤ k → r ≤ k' → mstF c N k p = mstF c N k' p ∧ lstF c N k p = lstF c N k' p := by
 intro r
 induction r with
 | zero => intro p hp _ h; have := rnk_pos (c := c) hN hp; omega
 | succ r ih =>
  intro p hp hw hr k k' hk hk'
  obtain ⟨j, rfl⟩ : ∃ j, k = j + 1 := ⟨k - 1, by omega⟩
  obtain ⟨j', rfl⟩ : ∃ j, k' = j + 1 := ⟨k' - 1, by omega⟩
  by_cases h : 0 ≤ (p : Int) ∧ (p : Int) < N ∧ opP c p ≠ 0
  ·rw [mstF_in h, mstF_in h, lstF_in h, lstF_in h]
   have hs : ∀ e ∈ edgB c p, mstF c N j e.1 = mstF c N j' e.1 ∧ lstF c N j e.1 = lstF c N j' e.1 := fun e he => by
    obtain ⟨t, h1, h2, h3⟩ := edg_next (by omega) hp h.2.2 he
    rw [h1]
    by_cases ht : t < N
    ·have hm := h3 ht
     have := rnk_lt hN hf.1 hp hw hm
     exact ih t ht (.on hw hm id) (by omega) j j' (by omega) (by omega)
    ·have ho : ¬(0 ≤ (t : Int) ∧ (t : Int) < N ∧ opP c t ≠ 0) := fun g => by omega
     exact ⟨by rw [qXr ho, qXr ho], by rw [qXt ho, qXt ho]⟩
   exact ⟨qKu _ _ fun e he x => by unfold mstU; rw [(hs e he).1], qKu _ _ fun e he x => by unfold lstU; rw [(hs e he).2]⟩
  ·exact ⟨by rw [qXr h, qXr h], by rw [qXt h, qXt h]⟩
def OkP (c : Int) (N p : Nat) : Prop := N ≤ p ∨ Way (nxf c N) (fun _ => False) 0 p
open Classical in
def rk (c : Int) (N p : Nat) : Nat := if N ≤ p then 0 else rnkN c N p
theorem rk_le (c : Int) (N p : Nat) : rk c N p ≤ 64 := by
 have := rnkN_le c N p
 unfold rk; split <;> omega
theorem ok_next {c : Int} {N p : Nat} (hN : N ≤ 64) (hf : frP c N) (hp : p < N) (ho : OkP c N p) (h0 : opP c p ≠ 0) {e : Int × Int × Int} (he : e ∈ edgB c p) :
  ∃ t : Nat, e.1 = t ∧ t ≤ 1000000 ∧ OkP c N t ∧ rk c N t < rk c N p := by
 obtain ⟨t, h1, h2, h3⟩ := edg_next (by omega) hp h0 he
 have hw := ho.resolve_left (by omega)
 have h4 := rnk_pos (c := c) hN hp
 refine ⟨t, h1, h2, ?_⟩
 unfold OkP rk
 by_cases ht : t < N
 ·rw [if_neg (by omega), if_neg (by omega)]
  exact ⟨.inr (.on hw (h3 ht) id), rnk_lt hN hf.1 hp hw (h3 ht)⟩
 ·rw [if_pos (by omega), if_neg (by omega)]
  exact ⟨.inl (by omega), h4⟩
theorem sum_64 {c : Int} {N t : Nat} (hN : N ≤ 64) (hf : frP c N) (ho : OkP c N t) (hr : rk c N t ≤ 64) : mstF c N 64 t = mstZ c N t ∧ lstF c N 64 t = lstZ c N t := by
 unfold mstZ lstZ
 rcases ho with h | h
 ·have ho : ¬(0 ≤ (t : Int) ∧ (t : Int) < N ∧ opP c t ≠ 0) := fun g => by omega
  exact ⟨by rw [qXr ho, qXr ho], by rw [qXt ho, qXt ho]⟩
 ·by_cases ht : t < N
  ·exact sum_st hN hf 64 t ht h (rnkN_le _ _ _) 64 65 (Nat.le_refl _) (by omega)
  ·have ho : ¬(0 ≤ (t : Int) ∧ (t : Int) < N ∧ opP c t ≠ 0) := fun g => by omega
   exact ⟨by rw [qXr ho, qXr ho], by rw [qXt ho, qXt ho]⟩
theorem mst_eq {c : Int} {N p : Nat} (hN : N ≤ 64) (hf : frP c N) (hp : p < N) (ho : OkP c N p) (h0 : opP c p ≠ 0) :
  mstZ c N p = (edgB c p).foldl (mstU (mstZ c N)) (mstI (opP c p)) ∧ lstZ c N p = (edgB c p).foldl (lstU (lstZ c N)) (lstI (opP c p)) := by
 have h : 0 ≤ (p : Int) ∧ (p : Int) < N ∧ opP c p ≠ 0 := ⟨by omega, by omega, h0⟩
 have hs : ∀ e ∈ edgB c p, mstF c N 64 e.1 = mstZ c N e.1 ∧ lstF c N 64 e.1 = lstZ c N e.1 := fun e he => by
  obtain ⟨t, h1, h2, h3, h4⟩ := ok_next hN hf hp ho h0 he
  rw [h1]
  exact sum_64 hN hf h3 (rk_le _ _ _)
 refine ⟨?_, ?_⟩
 ·show mstF c N 65 p = _
  rw [mstF_in h 64]
  exact qKu _ _ fun e he x => by unfold mstU; rw [(hs e he).1]
 ·show lstF c N 65 p = _
  rw [lstF_in h 64]
  exact qKu _ _ fun e he x => by unfold lstU; rw [(hs e he).2]
theorem mst_out {c : Int} {N p : Nat} (h : N ≤ p ∨ opP c p = 0) : mstZ c N p = 0 ∧ lstZ c N p = -1 := by
 have ho : ¬(0 ≤ (p : Int) ∧ (p : Int) < N ∧ opP c p ≠ 0) := fun g => by omega
 exact ⟨qXr ho 65, qXt ho 65⟩
end Go.Eng
end
/-!  -/
noncomputable section
namespace Go.Eng
open Go.RowKit
theorem way_up {nx : Nat → List Nat} (h : ∀ p t, t ∈ nx p → p < t) : ∀ {a b : Nat}, Way nx (fun _ => False) a b → a ≤ b := by
 intro a b hw
 induction hw with
 | here _ => exact Nat.le_refl _
 | on _ ht _ ih => have := h _ _ ht; omega
def qB : Int := qQq 2415919106 (qQq 1210124288 (qQq 2885681152 0))
def qC : Int := qQq 2617245696 0
theorem qB_0 : rdZ qB 0 = 2415919106 := qQy _ _
theorem qB_1 : rdZ qB 1 = 1210124288 := by unfold qB; rw [qQh _ _ (by omega)]; exact qQy _ _
theorem qB_2 : rdZ qB 2 = 2885681152 := by unfold qB; rw [qQh _ _ (by omega), qQh _ _ (by omega)]; exact qQy _ _
theorem qC_0 : rdZ qC 0 = 2617245696 := qQy _ _
theorem dB : decZ (IntKind.wrap .u32 2415919106) 0 = 36 ∧ decZ (IntKind.wrap .u32 2415919106) 4 = 2 ∧ decZ (IntKind.wrap .u32 1210124288) 0 = 18 ∧ decZ (IntKind.wrap .u32 2885681152) 0 = 43 ∧ decZ (IntKind.wrap .u32 2617245696) 0 = 39 ∧ decZ (IntKind.wrap .u32 2617245696) 4 = 0 := by decide
theorem op_0 : opP qB 0 = 36 := by unfold opP; rw [qB_0]; exact dB.1
theorem op_1 : opP qB 1 = 18 := by unfold opP; rw [qB_1]; exact dB.2.2.1
theorem op_2 : opP qB 2 = 43 := by unfold opP; rw [qB_2]; exact dB.2.2.2.1
theorem ed_0 : edgB qB 0 = [(2, 3, 3), (1, 1, 1)] := by unfold edgB; rw [op_0, qB_0, dB.2.1]; rfl
theorem ed_1 : edgB qB 1 = [(2, 3, 3)] := by unfold edgB; rw [op_1]; rfl
theorem ed_2 : edgB qB 2 = [] := by unfold edgB; rw [op_2]; rfl
theorem nx_up : ∀ p t, t ∈ nxf qB 3 p → p < t := by
 intro p t h
 have hl := nxf_lt h
 by_cases hp : p < 3
 ·have hc : p = 0 ∨ p = 1 ∨ p = 2 := by omega
  unfold nxf at h
  obtain ⟨x, hx, rfl⟩ := List.mem_map.1 h
  rcases hc with rfl | rfl | rfl
  ·unfold nxL at hx
   rw [show ((0 : Nat) : Int) = 0 from rfl, qB_0, dB.1, dB.2.1] at hx
   simp [go2] at hx
   omega
  ·unfold nxL at hx
   rw [show ((1 : Nat) : Int) = 1 from rfl, qB_1, dB.2.2.1] at hx
   simp [go2] at hx
   omega
  ·unfold nxL at hx
   rw [show ((2 : Nat) : Int) = 2 from rfl, qB_2, dB.2.2.2.1] at hx
   simp [go2] at hx
 ·have : nxf qB 3 p = [] := nxf_out (by omega)
  rw [this] at h; cases h
theorem fr_B : frZ qB 3 = 1 := by
 unfold frZ
 refine if_pos ⟨?_, fun p hp _ => ?_⟩
 ·rintro ⟨p, _, t, ht, hw⟩
  have h1 := nx_up p t ht
  have h2 := way_up nx_up hw
  omega
 ·have hc : p = 0 ∨ p = 1 ∨ p = 2 := by omega
  rcases hc with rfl | rfl | rfl
  ·rw [show ((0 : Nat) : Int) = 0 from rfl, op_0]; decide
  ·rw [show ((1 : Nat) : Int) = 1 from rfl, op_1]; decide
  ·rw [show ((2 : Nat) : Int) = 2 from rfl, op_2]; decide
theorem m_2 (k : Nat) : mstF qB 3 (k + 1) 2 = 1 ∧ lstF qB 3 (k + 1) 2 = 1 := by
 have h : 0 ≤ (2 : Int) ∧ (2 : Int) < 3 ∧ opP qB 2 ≠ 0 := ⟨by omega, by omega, by rw [op_2]; decide⟩
 rw [mstF_in h, lstF_in h, ed_2, op_2]
 exact ⟨(by decide : mstI 43 = 1), (by decide : lstI 43 = 1)⟩
theorem m_1 (k : Nat) : mstF qB 3 (k + 2) 1 = 4 ∧ lstF qB 3 (k + 2) 1 = 4 := by
 have h : 0 ≤ (1 : Int) ∧ (1 : Int) < 3 ∧ opP qB 1 ≠ 0 := ⟨by omega, by omega, by rw [op_1]; decide⟩
 rw [mstF_in h, lstF_in h, ed_1, op_1]
 simp only [List.foldl_cons, List.foldl_nil, mstU, lstU, m_2 k]
 decide
theorem m_0 : mstZ qB 3 0 = 5 ∧ lstZ qB 3 0 = 4 := by
 have h : 0 ≤ (0 : Int) ∧ (0 : Int) < 3 ∧ opP qB 0 ≠ 0 := ⟨by omega, by omega, by rw [op_0]; decide⟩
 unfold mstZ lstZ
 rw [mstF_in h, lstF_in h, ed_0, op_0]
 simp only [List.foldl_cons, List.foldl_nil, mstU, lstU, m_2 63, m_1 62]
 decide
theorem fr_C : ¬frZ qC 1 = 1 := by
 have : ¬frP qC 1 := fun h => h.1 ⟨0, .here id, 0, by
  unfold nxf nxL
  rw [show ((0 : Nat) : Int) = 0 from rfl, qC_0, dB.2.2.2.2.1, dB.2.2.2.2.2]
  simp, .here id⟩
 unfold frZ
 rw [if_neg this]
 omega
theorem aw44 : bmN qB 3 = 5 ∧ bmE qB 3 = 0 ∧ blN qB 3 = 4 ∧ blE qB 3 = 0 ∧ bmE qC 1 = 12 := by
 unfold bmN bmE blN blE
 rw [if_neg fr_C, if_pos fr_B, if_pos fr_B, if_pos fr_B, if_pos fr_B, m_0.1, m_0.2]
 decide
end Go.Eng
end
