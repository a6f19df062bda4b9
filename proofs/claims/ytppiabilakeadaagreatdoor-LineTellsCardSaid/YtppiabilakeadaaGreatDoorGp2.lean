/-
  Parts of the engine, a program's symbolic run, proved sound; and of plain laws.
-/
import Derived.Test.YtppiabilakeadaaGreatDoorGu5
import Derived.Test.YtppiabilakeadaaGreatDoorGp1
set_option linter.unusedVariables false
set_option linter.unusedSimpArgs false
/-!  -/
noncomputable section
namespace Go.Eng
theorem qZu (s : Int) : ((bytL s).length : Int) = qQz s := by
 have h := qQu s
 have : (bytL s).length = (qQj s).size := by unfold bytL; simp
 omega
theorem strOf_bytL (s : Int) : qQj s = ⟨(bytL s).toArray⟩ := by unfold bytL; simp
theorem qZd {a b : Int} : qQj a = qQj b ↔ bytL a = bytL b := by
 constructor
 ·intro h; unfold bytL; rw [h]
 ·intro h; rw [strOf_bytL a, strOf_bytL b, h]
theorem qYv {a b : Int} : seqZ a b ≠ 0 ↔ bytL a = bytL b := by
 rw [← qZd]; unfold seqZ; split <;> simp_all
theorem qKn {a b : Int} (h : qQz a + qQz b ≤ qQf) : bytL (catZ a b) = bytL a ++ bytL b := by
 unfold bytL
 rw [strOf_cat a b h, ByteArray.data_append]; simp
theorem qXg {l : List UInt8} (h : (l.length : Int) ≤ qQf) : bytL (bcode l) = l := by
 unfold bytL bcode
 rw [code_strZ]
 have : (⟨l.toArray⟩ : ByteArray).size = l.length := by show Array.size _ = _; simp
 omega
theorem bytL_at (s : Int) (i : Nat) (h : (i : Int) < qQz s) : (bytL s)[i]? = some (UInt8.ofNat (qQy s i).toNat) := by
 unfold bytL
 rw [Array.getElem?_toList]; exact qYi s i h
theorem byte_toNat (s i : Int) : ((UInt8.ofNat (qQy s i).toNat).toNat : Int) = qQy s i := by
 have := qXh s i
 simp only [UInt8.toNat_ofNat']
 omega
theorem bytL_mk {n q : Int} {l : List UInt8} (hn : n = l.length) (hl : n ≤ qQf) (hq : ∀ i : Nat, (h : i < l.length) → rdZ q i % 256 = (l[i].toNat : Int)) : bytL (qQq n (qQq q 0)) = l := by
 have hs : qQz (qQq n (qQq q 0)) = n := by
  unfold qQz
  rw [qQa, if_neg (by omega), if_neg (by omega)]
 apply List.ext_getElem?
 intro i
 by_cases hi : i < l.length
 ·rw [bytL_at _ i (by omega), List.getElem?_eq_getElem hi]
  congr 1
  have : qQy (qQq n (qQq q 0)) i = (l[i].toNat : Int) := by
   unfold qQy
   rw [qQd _ _ (by omega), show (1 : Int) - 1 = 0 by omega, qQa]
   exact hq i hi
  rw [this]; simp
 ·have h := qZu (qQq n (qQq q 0))
  rw [List.getElem?_eq_none (by omega), List.getElem?_eq_none (by omega)]
theorem bytL_cut {s l h : Int} (h0 : 0 ≤ l) (h1 : l ≤ h) (h2 : h ≤ qQz s) : bytL (qQq (h - l) (qQq (qQv (rdZ s 1) l) 0)) = ((bytL s).drop l.toNat).take (h - l).toNat := by
 have hb := qZo s
 have hlen := qZu s
 refine bytL_mk ?_ (by omega) fun i hi => ?_
 ·rw [List.length_take, List.length_drop]; omega
 ·have hi' : (i : Int) < h - l := by rw [List.length_take, List.length_drop] at hi; omega
  rw [List.getElem_take, List.getElem_drop]
  have h3 := bytL_at s (l.toNat + i) (by omega)
  rw [List.getElem?_eq_getElem (by omega)] at h3
  rw [Option.some.inj h3, byte_toNat]
  unfold qQy
  rw [rdZ_drop, show (l.toNat + (i : Int).toNat : Nat) = l.toNat + i by omega]
theorem bytL_e : bytL (qQq 0 (qQq 0 0)) = [] := bytL_mk rfl (by unfold qQf; omega) fun i hi => by simp at hi
theorem bytL_1 {b : Int} (h0 : 0 ≤ b) (h1 : b ≤ 255) : bytL (qQq 1 (qQq (qQq b 0) 0)) = [UInt8.ofNat b.toNat] := bytL_mk rfl (by unfold qQf; omega) fun i hi => by
 have : i = 0 := by simpa using hi
 subst this
 simp only [List.getElem_cons_zero, UInt8.toNat_ofNat']
 rw [show ((0 : Nat) : Int) = 0 from rfl, qQa]
 omega
theorem qZn {n : Int} (h0 : -9223372036854775808 ≤ n) (h1 : n ≤ 9223372036854775807) : bytL (itoZ n) = Lib.itoa n :=
 qXg (by have := itoa_len n h0 h1; unfold qQf; omega)
theorem qKz {n : Int} (h0 : 0 ≤ n) (h1 : n < 10) : Lib.itoa n = [UInt8.ofNat (48 + n.toNat)] := by
 unfold Lib.itoa
 rw [if_neg (by omega), Lib.decDigits, dif_pos (by omega)]
theorem itoa_big {n : Int} (h1 : 10 ≤ n) : Lib.itoa n = Lib.itoa (n / 10) ++ Lib.itoa (n % 10) := by
 have e1 : (n / 10).toNat = n.toNat / 10 := by omega
 have e2 : (n % 10).toNat = n.toNat % 10 := by omega
 rw [qKz (n := n % 10) (by omega) (by omega), e2]
 unfold Lib.itoa
 rw [if_neg (by omega), if_neg (by omega), e1, Lib.decDigits, dif_neg (by omega)]
theorem itoa_neg {n : Int} (h1 : n < 0) : Lib.itoa n = 45 :: Lib.itoa (0 - n) := by
 unfold Lib.itoa
 rw [if_pos h1, if_neg (by omega), show (0 - n).toNat = n.natAbs by omega]
theorem qKs (l : List Int) (n : Int) (h : 0 ≤ n) (h2 : n ≤ qQf) (c : Int) : qQz (qQq n c) = n := by
 unfold qQz
 rw [qQa, if_neg (by omega), if_neg (by omega)]
theorem digit_cut {n : Int} (h0 : 0 ≤ n) (h1 : n ≤ 9) : bytL (qQq (n + 1 - n) (qQq (qQv (qQq 48 (qQq 49 (qQq 50 (qQq 51 (qQq 52 (qQq 53 (qQq 54 (qQq 55 (qQq 56 (qQq 57 0)))))))))) n) 0)) = Lib.itoa n := by
 rw [qKz h0 (by omega)]
 refine bytL_mk (by simp; omega) (by unfold qQf; omega) fun i hi => ?_
 have : i = 0 := by simpa using hi
 subst this
 simp only [List.getElem_cons_zero, UInt8.toNat_ofNat']
 rw [rdZ_drop]
 have hk : n.toNat ≤ 9 := by omega
 have e : n.toNat + ((0 : Nat) : Int).toNat = n.toNat := by simp
 rw [e]
 generalize n.toNat = k at hk
 have : ∀ k : Nat, k ≤ 9 → rdZ (qQq 48 (qQq 49 (qQq 50 (qQq 51 (qQq 52 (qQq 53 (qQq 54 (qQq 55 (qQq 56 (qQq 57 0)))))))))) k = 48 + k := by
  intro k hk
  have : k = 0 ∨ k = 1 ∨ k = 2 ∨ k = 3 ∨ k = 4 ∨ k = 5 ∨ k = 6 ∨ k = 7 ∨ k = 8 ∨ k = 9 := by omega
  rcases this with rfl | rfl | rfl | rfl | rfl | rfl | rfl | rfl | rfl | rfl <;> simp [qQa, qQd]
 rw [this k hk]
 omega
theorem quo10 {n : Int} (h0 : 0 ≤ n) (h1 : n ≤ 999999999) : BO.ev .quo .i64 n 10 = n / 10 := by
 show IntKind.wrap .i64 (n.tdiv 10) = _
 rw [Int.tdiv_eq_ediv_of_nonneg h0, w64 (by omega) (by omega)]
theorem rem10 {n : Int} (h0 : 0 ≤ n) : BO.ev .rem .i64 n 10 = n % 10 := by
 show n.tmod 10 = _
 rw [Int.tmod_eq_emod_of_nonneg h0]
theorem qQo {n : Int} (h0 : -9223372036854775808 ≤ n) (h1 : n ≤ 9223372036854775807) : qQz (itoZ n) ≤ 20 := by
 have := qZu (itoZ n)
 have h2 := itoa_len n h0 h1
 rw [qZn h0 h1] at this
 omega
theorem dig_big {n : Int} (h0 : 10 ≤ n) (h1 : n ≤ 999999999) : qQj (catZ (itoZ (n / 10)) (itoZ (n % 10))) = qQj (itoZ n) := by
 have a := qQo (n := n / 10) (by omega) (by omega)
 have b := qQo (n := n % 10) (by omega) (by omega)
 rw [qZd, qKn (by unfold qQf; omega), qZn (by omega) (by omega), qZn (by omega) (by omega), qZn (by omega) (by omega), itoa_big h0]
theorem qXy {n : Int} (h0 : 0 ≤ n) (h1 : n ≤ 9) : qQj (qQq (n + 1 - n) (qQq (qQv (qQq 48 (qQq 49 (qQq 50 (qQq 51 (qQq 52 (qQq 53 (qQq 54 (qQq 55 (qQq 56 (qQq 57 0)))))))))) n) 0)) = qQj (itoZ n) := by
 rw [qZd, digit_cut h0 h1, qZn (by omega) (by omega)]
theorem dig_neg {n : Int} (h0 : n < 0) (h1 : -999999999 ≤ n) : qQj (catZ (qQq 1 (qQq (qQq 45 0) 0)) (itoZ (0 - n))) = qQj (itoZ n) := by
 have a := qQo (n := 0 - n) (by omega) (by omega)
 have b : qQz (qQq 1 (qQq (qQq 45 0) 0)) = 1 := qKs [] 1 (by omega) (by unfold qQf; omega) _
 rw [qZd, qKn (by unfold qQf; omega), bytL_1 (by omega) (by omega), qZn (by omega) (by omega), qZn (by omega) (by omega), itoa_neg h0]
 rfl
theorem qKr (c : Int) : qQz (qQq 10 c) = 10 := qKs [] 10 (by omega) (by unfold qQf; omega) _
theorem qZm (c : Int) : qQz (qQq 1 c) = 1 := qKs [] 1 (by omega) (by unfold qQf; omega) _
theorem slen_0 (c : Int) : qQz (qQq 0 c) = 0 := qKs [] 0 (by omega) (by unfold qQf; omega) _
theorem index_no : ∀ (w : List UInt8), (∀ x ∈ w, x ≠ 32) → Lib.index w [32] = -1
 | [], _ => rfl
 | b :: l, h => by
  have h1 := index_no l fun x hx => h x (List.mem_cons_of_mem _ hx)
  have hb : b ≠ 32 := h b List.mem_cons_self
  unfold Lib.index
  rw [if_neg (by simp [List.isPrefixOf]; exact fun e => hb e.symm), h1]
  rfl
theorem index_at : ∀ (w r : List UInt8), (∀ x ∈ w, x ≠ 32) → Lib.index (w ++ 32 :: r) [32] = w.length
 | [], r, _ => by simp [Lib.index, List.isPrefixOf]
 | b :: l, r, h => by
  have h1 := index_at l r fun x hx => h x (List.mem_cons_of_mem _ hx)
  have hb : b ≠ 32 := h b List.mem_cons_self
  rw [List.cons_append]
  unfold Lib.index
  rw [if_neg (by simp [List.isPrefixOf]; exact fun e => hb e.symm), h1, if_neg (by simp)]
  simp
theorem split_words : ∀ (l w : List UInt8) (k : Nat), (∀ x ∈ w, x ≠ 32) → l.count 32 ≤ k → (Lib.splitK [32] 0 k (w ++ l)).filter (fun x => decide (x ≠ [])) = wgo w l
 | [], w, k, h, _ => by
  have h1 := index_no w h
  have : Lib.splitK [32] 0 k (w ++ []) = [w] := by
   rw [List.append_nil]
   cases k with
   | zero => rfl
   | succ k => unfold Lib.splitK; rw [h1]; rfl
  rw [this]
  unfold wgo
  by_cases hw : w = [] <;> simp [hw]
 | b :: r, w, k, h, hk => by
  unfold wgo
  by_cases hb : b = 32
  ·subst hb
   rw [if_pos rfl]
   cases k with
   | zero => simp at hk
   | succ k =>
    have h1 := index_at w r h
    have h2 := split_words r [] k (fun x hx => by simp at hx) (by simp at hk; omega)
    rw [List.nil_append] at h2
    unfold Lib.splitK
    rw [h1, if_neg (by simp)]
    have e1 : ((w.length : Int)).toNat = w.length := by simp
    rw [e1, Nat.add_zero, List.take_left', show w.length + [(32 : UInt8)].length = w.length + 1 from rfl]
    have e2 : (w ++ 32 :: r).drop (w.length + 1) = r := by
     rw [show w ++ 32 :: r = (w ++ [32]) ++ r by simp, List.drop_left' (by simp)]
    rw [e2, List.filter_cons, h2]
    by_cases hw : w = [] <;> simp [hw]
    rfl
  ·rw [if_neg hb]
   have h2 := split_words r (w ++ [b]) k (fun x hx => by
    rcases List.mem_append.1 hx with hx | hx
    ·exact h x hx
    ·simp at hx; subst hx; exact hb) (by rw [List.count_cons_of_ne (fun e => hb e)] at hk; exact hk)
   rw [List.append_assoc] at h2
   exact h2
def Tx (q : Int) (W : List (List UInt8)) : Prop := ∀ i : Nat, (h : i < W.length) → bytL (rdZ q i) = W[i]
theorem Tx.nil (q : Int) : Tx q [] := fun i h => by simp at h
theorem Tx.snoc {q : Int} {W : List (List UInt8)} (h : Tx q W) {n x : Int} {w : List UInt8} (hn : n = W.length) (hx : bytL x = w) : Tx (updZ q n x) (W ++ [w]) := by
 intro i hi
 rw [qXd]
 rw [List.length_append, List.length_singleton] at hi
 by_cases e : i = W.length
 ·rw [if_pos (by omega), hx]
  simp [e]
 ·rw [if_neg (by omega), List.getElem_append_left (by omega)]
  exact h i (by omega)
theorem Tx.code {W : List (List UInt8)} (h : ∀ w ∈ W, (w.length : Int) ≤ qQf) : Tx (LZ (W.map bcode)) W := by
 intro i hi
 unfold rdZ
 rw [ZL_LZ]
 simp only [Int.toNat_natCast, List.getD_eq_getElem?_getD, List.getElem?_map, List.getElem?_eq_getElem hi, Option.map_some, Option.getD_some]
 exact qXg (h _ (List.getElem_mem hi))
theorem Tx.eq {q c : Int} {W : List (List UInt8)} (h : Tx q W) (k : Tx c W) {n : Int} (hn : n ≤ W.length) : rowEq [.str] q c n := by
 intro i hi
 have h1 := h i (by omega)
 have h2 := k i (by omega)
 have : qQj (rdZ q i) = qQj (rdZ c i) := qZd.2 (h1.trans h2.symm)
 simp only [qQm, ckV, this]
theorem wgo_size : ∀ (l w x : List UInt8), x ∈ wgo w l → x.length ≤ w.length + l.length
 | [], w, x, h => by
  unfold wgo at h
  split at h
  ·simp at h
  ·simp at h; subst h; simp
 | b :: r, w, x, h => by
  unfold wgo at h
  split at h
  ·split at h
   ·have := wgo_size r [] x h; simp only [List.length_cons, List.length_nil] at *; omega
   ·rcases List.mem_cons.1 h with rfl | h
    ·simp only [List.length_cons]; omega
    ·have := wgo_size r [] x h; simp only [List.length_cons, List.length_nil] at *; omega
  ·have := wgo_size r _ x h
   simp only [List.length_cons, List.length_append, List.length_nil] at *; omega
theorem qKa (s : Int) : Tx (wrdC s) (wrdL s) := Tx.code fun w hw => by
 have h1 := wgo_size _ _ _ hw
 have h2 := qZu s
 have h3 := (qZo s).2
 simp only [List.length_nil] at h1
 omega
def splP (s : Int) : List (List UInt8) := (splL s 32).map (·.data.toList)
theorem splP_words (s : Int) : (splP s).filter (fun x => decide (x ≠ [])) = wrdL s := by
 unfold splP splL
 rw [Lib.splitB_data]
 have e1 : (oneB 32).data.toList = [32] := rfl
 have e2 : Lib.countB (qQj s) (oneB 32) = (bytL s).count 32 := Lib.count_one 32 (bytL s)
 rw [e1, e2]
 exact split_words (bytL s) [] _ (fun x hx => by simp at hx) (Nat.le_refl _)
theorem splP_len (s : Int) : ((splP s).length : Int) = splN s 32 := by
 have h := Lib.splitB_all (oneB 32) (Nat.le_refl _) 0 _ (qQj s) rfl
 unfold splP splN splL
 rw [List.length_map, h]
 omega
theorem splP_tx (s : Int) : Tx (splC s 32) (splP s) := by
 have h1 := (qZo s).2
 have h2 := qQu s
 have : splC s 32 = LZ ((splP s).map bcode) := by
  unfold splC splP bcode
  rw [List.map_map]
  rfl
 rw [this]
 refine Tx.code fun w hw => ?_
 unfold splP at hw
 obtain ⟨b, hb, rfl⟩ := List.mem_map.1 hw
 have h3 := splitB_size (oneB 32) _ _ _ hb
 have : b.data.toList.length = b.size := by simp
 omega
theorem splN_le (s : Int) : splN s 32 ≤ qQz s + 1 := by
 have h := Lib.countB_le (oneB 32) (Nat.le_refl _) (qQj s).size (qQj s) (Nat.le_refl _)
 have h1 := qQu s
 unfold splN
 omega
def wdsK (P : List (List UInt8)) (k : Nat) : List (List UInt8) := (P.take k).filter (fun x => decide (x ≠ []))
theorem wdsK_le (P : List (List UInt8)) (k : Nat) : (wdsK P k).length ≤ k := by
 unfold wdsK
 have := List.length_filter_le (fun x => decide (x ≠ [])) (P.take k)
 rw [List.length_take] at this
 omega
theorem wdsK_succ {P : List (List UInt8)} {k : Nat} (h : k < P.length) : wdsK P (k + 1) = if P[k] = [] then wdsK P k else wdsK P k ++ [P[k]] := by
 unfold wdsK
 rw [List.take_succ_eq_append_getElem h, List.filter_append]
 by_cases e : P[k] = [] <;> simp [e]
theorem qVz {s i : Int} (h0 : 0 ≤ i) (h1 : i < qQz s) : (bytL s).drop i.toNat = UInt8.ofNat (qQy s i).toNat :: (bytL s).drop (i + 1).toNat := by
 have hl := qZu s
 have h := bytL_at s i.toNat (by omega)
 rw [show ((i.toNat : Nat) : Int) = i by omega] at h
 have hlt : i.toNat < (bytL s).length := by omega
 rw [List.getElem?_eq_getElem hlt] at h
 rw [List.drop_eq_getElem_cons hlt, Option.some.inj h, show (i + 1).toNat = i.toNat + 1 by omega]
theorem byte_eq {s i : Int} {c : Nat} (hc : c < 256) : UInt8.ofNat (qQy s i).toNat = UInt8.ofNat c ↔ qQy s i = c := by
 have hb := qXh s i
 constructor
 ·intro h
  have := congrArg UInt8.toNat h
  simp only [UInt8.toNat_ofNat'] at this
  omega
 ·intro h; rw [h]; simp
theorem cut_byte {s i : Int} (h0 : 0 ≤ i) (h1 : i < qQz s) : bytL (qQq (i + 1 - i) (qQq (qQv (rdZ s 1) i) 0)) = [UInt8.ofNat (qQy s i).toNat] := by
 rw [bytL_cut h0 (by omega) (by omega), qVz h0 h1, show (i + 1 - i).toNat = 1 by omega]
 rfl
theorem slen_cut (s i : Int) : qQz (qQq (i + 1 - i) (qQq (qQv (rdZ s 1) i) 0)) = 1 := by
 rw [show i + 1 - i = 1 by omega]; exact qZm _
theorem byt_nil {w : Int} : seqZ w (qQq 0 (qQq 0 0)) ≠ 0 ↔ bytL w = [] := by rw [qYv, bytL_e]
theorem shp_0 {op : Int} (h : 1 ≤ op ∧ op ≤ 23) : shpZ op 0 = 1 ∧ shpZ op 1 = 1 ∧ shpZ op 2 = 1 ∧ shpZ op 3 = 0 := by
 unfold shpZ
 refine ⟨?_, ?_, ?_, ?_⟩ <;> simp only [Int.reduceEq, if_true, if_false] <;> omega
theorem cck_0 {op d a b n : Int} (h : 1 ≤ op ∧ op ≤ 23) : cckI op d a b n = if ¬ (0 ≤ d ∧ d ≤ 31) then 6 else if ¬ (0 ≤ a ∧ a ≤ 31) then 6 else if ¬ (0 ≤ b ∧ b ≤ 31) then 6 else if ¬ (n = 0) then 3 else 0 := by
 obtain ⟨h0, h1, h2, h3⟩ := shp_0 h
 unfold cckI fieE
 rw [h0, h1, h2, h3, if_neg (by omega)]
 simp only [Int.reduceEq, if_true, if_false]
 omega
theorem shp_1 {op : Int} (h : 24 ≤ op ∧ op ≤ 30) : shpZ op 0 = 1 ∧ shpZ op 1 = 1 ∧ shpZ op 2 = 0 ∧ shpZ op 3 = 0 := by
 unfold shpZ
 refine ⟨?_, ?_, ?_, ?_⟩ <;> simp only [Int.reduceEq, if_true, if_false] <;> omega
theorem cck_1 {op d a b n : Int} (h : 24 ≤ op ∧ op ≤ 30) : cckI op d a b n = if ¬ (0 ≤ d ∧ d ≤ 31) then 6 else if ¬ (0 ≤ a ∧ a ≤ 31) then 6 else if ¬ (b = 0) then 3 else if ¬ (n = 0) then 3 else 0 := by
 obtain ⟨h0, h1, h2, h3⟩ := shp_1 h
 unfold cckI fieE
 rw [h0, h1, h2, h3, if_neg (by omega)]
 simp only [Int.reduceEq, if_true, if_false]
 omega
theorem shp_2 {op : Int} (h : op = 31) : shpZ op 0 = 1 ∧ shpZ op 1 = 1 ∧ shpZ op 2 = 0 ∧ shpZ op 3 = 2 := by
 unfold shpZ
 refine ⟨?_, ?_, ?_, ?_⟩ <;> simp only [Int.reduceEq, if_true, if_false] <;> omega
theorem cck_2 {op d a b n : Int} (h : op = 31) : cckI op d a b n = if ¬ (0 ≤ d ∧ d ≤ 31) then 6 else if ¬ (0 ≤ a ∧ a ≤ 31) then 6 else if ¬ (b = 0) then 3 else if ¬ (-32768 ≤ n ∧ n ≤ 32767) then 6 else 0 := by
 obtain ⟨h0, h1, h2, h3⟩ := shp_2 h
 unfold cckI fieE
 rw [h0, h1, h2, h3, if_neg (by omega)]
 simp only [Int.reduceEq, if_true, if_false]
 omega
theorem shp_3 {op : Int} (h : op = 32 ∨ (34 ≤ op ∧ op ≤ 38)) : shpZ op 0 = 1 ∧ shpZ op 1 = 1 ∧ shpZ op 2 = 0 ∧ shpZ op 3 = 3 := by
 unfold shpZ
 refine ⟨?_, ?_, ?_, ?_⟩ <;> simp only [Int.reduceEq, if_true, if_false] <;> omega
theorem cck_3 {op d a b n : Int} (h : op = 32 ∨ (34 ≤ op ∧ op ≤ 38)) : cckI op d a b n = if ¬ (0 ≤ d ∧ d ≤ 31) then 6 else if ¬ (0 ≤ a ∧ a ≤ 31) then 6 else if ¬ (b = 0) then 3 else if ¬ (0 ≤ n ∧ n ≤ 65535) then 6 else 0 := by
 obtain ⟨h0, h1, h2, h3⟩ := shp_3 h
 unfold cckI fieE
 rw [h0, h1, h2, h3, if_neg (by omega)]
 simp only [Int.reduceEq, if_true, if_false]
 omega
theorem shp_4 {op : Int} (h : op = 33 ∨ op = 40) : shpZ op 0 = 1 ∧ shpZ op 1 = 0 ∧ shpZ op 2 = 0 ∧ shpZ op 3 = 3 := by
 unfold shpZ
 refine ⟨?_, ?_, ?_, ?_⟩ <;> simp only [Int.reduceEq, if_true, if_false] <;> omega
theorem cck_4 {op d a b n : Int} (h : op = 33 ∨ op = 40) : cckI op d a b n = if ¬ (0 ≤ d ∧ d ≤ 31) then 6 else if ¬ (a = 0) then 3 else if ¬ (b = 0) then 3 else if ¬ (0 ≤ n ∧ n ≤ 65535) then 6 else 0 := by
 obtain ⟨h0, h1, h2, h3⟩ := shp_4 h
 unfold cckI fieE
 rw [h0, h1, h2, h3, if_neg (by omega)]
 simp only [Int.reduceEq, if_true, if_false]
 omega
theorem shp_5 {op : Int} (h : op = 39) : shpZ op 0 = 0 ∧ shpZ op 1 = 0 ∧ shpZ op 2 = 0 ∧ shpZ op 3 = 3 := by
 unfold shpZ
 refine ⟨?_, ?_, ?_, ?_⟩ <;> simp only [Int.reduceEq, if_true, if_false] <;> omega
theorem cck_5 {op d a b n : Int} (h : op = 39) : cckI op d a b n = if ¬ (d = 0) then 3 else if ¬ (a = 0) then 3 else if ¬ (b = 0) then 3 else if ¬ (0 ≤ n ∧ n ≤ 65535) then 6 else 0 := by
 obtain ⟨h0, h1, h2, h3⟩ := shp_5 h
 unfold cckI fieE
 rw [h0, h1, h2, h3, if_neg (by omega)]
 simp only [Int.reduceEq, if_true, if_false]
 omega
theorem shp_6 {op : Int} (h : op = 41) : shpZ op 0 = 0 ∧ shpZ op 1 = 1 ∧ shpZ op 2 = 0 ∧ shpZ op 3 = 0 := by
 unfold shpZ
 refine ⟨?_, ?_, ?_, ?_⟩ <;> simp only [Int.reduceEq, if_true, if_false] <;> omega
theorem cck_6 {op d a b n : Int} (h : op = 41) : cckI op d a b n = if ¬ (d = 0) then 3 else if ¬ (0 ≤ a ∧ a ≤ 31) then 6 else if ¬ (b = 0) then 3 else if ¬ (n = 0) then 3 else 0 := by
 obtain ⟨h0, h1, h2, h3⟩ := shp_6 h
 unfold cckI fieE
 rw [h0, h1, h2, h3, if_neg (by omega)]
 simp only [Int.reduceEq, if_true, if_false]
 omega
theorem shp_7 {op : Int} (h : op = 42 ∨ op = 43) : shpZ op 0 = 0 ∧ shpZ op 1 = 0 ∧ shpZ op 2 = 0 ∧ shpZ op 3 = 0 := by
 unfold shpZ
 refine ⟨?_, ?_, ?_, ?_⟩ <;> simp only [Int.reduceEq, if_true, if_false] <;> omega
theorem cck_7 {op d a b n : Int} (h : op = 42 ∨ op = 43) : cckI op d a b n = if ¬ (d = 0) then 3 else if ¬ (a = 0) then 3 else if ¬ (b = 0) then 3 else if ¬ (n = 0) then 3 else 0 := by
 obtain ⟨h0, h1, h2, h3⟩ := shp_7 h
 unfold cckI fieE
 rw [h0, h1, h2, h3, if_neg (by omega)]
 simp only [Int.reduceEq, if_true, if_false]
 omega
theorem cck_n {op d a b n : Int} (h : op < 1 ∨ 43 < op) : cckI op d a b n = 2 := by unfold cckI; rw [if_pos h]
theorem qYc (op d a b n : Int) : cckZ op d (qQq a (qQq b (qQq n 0))) = cckI op d a b n := by
 unfold cckZ
 simp [qQa, qQd]
theorem rdZ_chS : ∀ (l : List Int) (i : Nat), rdZ (chS l) i = l.getD i 0
 | [], i => by simp [chS, rdZ_nil]
 | x :: l, 0 => by simp only [chS]; rw [show ((0 : Nat) : Int) = 0 from rfl, qQa]; rfl
 | x :: l, i + 1 => by
  simp only [chS]
  rw [qQd _ _ (by omega), show ((i + 1 : Nat) : Int) - 1 = (i : Nat) by omega, rdZ_chS l i]
  rfl
theorem bytL_cdS {l : List Int} (h : ∀ x ∈ l, 0 ≤ x ∧ x ≤ 255) (hl : l.length ≤ 1000) : bytL (cdS l) = l.map fun x => UInt8.ofNat x.toNat := by
 unfold cdS
 refine bytL_mk (by simp) (by unfold qQf; omega) fun i hi => ?_
 rw [List.length_map] at hi
 rw [rdZ_chS, List.getD_eq_getElem?_getD, List.getElem?_eq_getElem hi, Option.getD_some, List.getElem_map]
 have := h _ (List.getElem_mem hi)
 simp only [UInt8.toNat_ofNat']
 omega
theorem opNames_ok : ∀ l ∈ qZa, (∀ x ∈ l, 0 ≤ x ∧ x ≤ 255) ∧ l.length ≤ 1000 := by decide
theorem qXb (op : Int) : bytL (onmZ op) = onmL op := by
 refine qXg ?_
 unfold onmL
 split
 ·simp [qQf]
 ·rw [List.length_map, List.getD_eq_getElem?_getD]
  cases h : qZa[(op - 1).toNat]? with
  | none => simp [qQf]
  | some l =>
   have := (opNames_ok l (List.mem_of_getElem? h)).2
   simp only [Option.getD_some]
   unfold qQf
   omega
theorem onm_lit (op : Int) (l : List Int) (q : Int) (h1 : 1 ≤ op) (hl : qZa[(op - 1).toNat]? = some l) (hq : q = cdS l) : qQj q = qQj (onmZ op) := by
 obtain ⟨o1, o2⟩ := opNames_ok l (List.mem_of_getElem? hl)
 rw [qZd, qXb, hq, bytL_cdS o1 o2]
 unfold onmL
 rw [if_neg (by omega), List.getD_eq_getElem?_getD, hl]
 rfl
theorem onm_none {op : Int} (h : op < 1 ∨ 43 < op) : qQj (qQq 0 (qQq 0 0)) = qQj (onmZ op) := by
 rw [qZd, qXb, bytL_e]
 unfold onmL
 split
 ·rfl
 ·rw [List.getD_eq_getElem?_getD, List.getElem?_eq_none (by
   have : qZa.length = 43 := by decide
   omega)]
  rfl
theorem onm_row {op q : Int} (hq : q = chS (qZa.map cdS)) (h1 : 1 ≤ op) (h2 : op ≤ 43) : qQj (rdZ q (IntKind.wrap .i64 (op - 1))) = qQj (onmZ op) := by
 have hl : (op - 1).toNat < qZa.length := by
  have : qZa.length = 43 := by decide
  omega
 refine onm_lit op (qZa[(op - 1).toNat]) _ h1 (List.getElem?_eq_getElem hl) ?_
 have e : rdZ (chS (qZa.map cdS)) (((op - 1).toNat : Nat) : Int) = cdS qZa[(op - 1).toNat] := by
  rw [rdZ_chS, List.getD_eq_getElem?_getD, List.getElem?_map, List.getElem?_eq_getElem hl]
  rfl
 rw [hq, w64 (by omega) (by omega), ← e]
 congr 1
 omega
theorem opF_drop {s : Int} {k : Nat} (h : k < 43) (q : Int) (hq : q = chS (qZa.map cdS)) : opF (qZa.drop k) ((k : Int) + 1) s = if seqZ (rdZ q k) s ≠ 0 then (k : Int) + 1 else opF (qZa.drop (k + 1)) (((k + 1 : Nat) : Int) + 1) s := by
 have hl : k < qZa.length := by
  have : qZa.length = 43 := by decide
  omega
 have e : rdZ q k = cdS qZa[k] := by
  rw [hq, rdZ_chS, List.getD_eq_getElem?_getD, List.getElem?_map, List.getElem?_eq_getElem hl]
  rfl
 rw [List.drop_eq_getElem_cons hl, opF, e]
 rw [show ((k + 1 : Nat) : Int) + 1 = (k : Int) + 1 + 1 by omega]
theorem decFrom_app : ∀ (a b : List UInt8) (x : Nat), Lib.decFrom x (a ++ b) = (Lib.decFrom x a).bind fun y => Lib.decFrom y b
 | [], b, x => rfl
 | c :: a, b, x => by
  rw [List.cons_append]
  simp only [Lib.decFrom]
  cases Lib.digitVal c with
  | none => rfl
  | some d => exact decFrom_app a b _
theorem digitVal_of {d : Nat} (h : d < 10) : Lib.digitVal (UInt8.ofNat (48 + d)) = some d := by
 unfold Lib.digitVal
 have : (UInt8.ofNat (48 + d)).toNat = 48 + d := by simp only [UInt8.toNat_ofNat']; omega
 rw [this, if_pos (by omega)]
 congr 1; omega
theorem qJk : ∀ (u : Nat), Lib.decFrom 0 (Lib.decDigits u) = some u := by
 intro u
 induction u using Nat.strongRecOn with
 | _ u ih =>
  rw [Lib.decDigits]
  split
  ·rename_i h
   simp only [Lib.decFrom, digitVal_of h]
   simp
  ·rename_i h
   rw [decFrom_app, ih (u / 10) (by omega)]
   simp only [Option.bind_some, Lib.decFrom, digitVal_of (Nat.mod_lt u (by omega))]
   congr 1; omega
theorem decDigits_ne (u : Nat) : Lib.decDigits u ≠ [] := by
 rw [Lib.decDigits]
 split <;> simp
theorem decNat_val (u : Nat) : Lib.decNat (Lib.decDigits u) = some u := by
 unfold Lib.decNat
 rw [if_neg (by have := decDigits_ne u; cases h : Lib.decDigits u <;> simp_all), qJk]
theorem qXr {x n : Nat} {l : List UInt8} (h : Lib.decFrom x l = some n) : ∀ b ∈ l, 48 ≤ b.toNat ∧ b.toNat ≤ 57 := by
 induction l generalizing x with
 | nil => intro b hb; simp at hb
 | cons c l ih =>
  simp only [Lib.decFrom] at h
  cases hd : Lib.digitVal c with
  | none => rw [hd] at h; cases h
  | some d =>
   rw [hd] at h
   intro b hb
   rcases List.mem_cons.1 hb with rfl | hb
   ·unfold Lib.digitVal at hd
    split at hd
    ·assumption
    ·cases hd
   ·exact ih h b hb
theorem itoa_atoi (n : Int) : Lib.atoi (Lib.itoa n) = some n := by
 unfold Lib.itoa
 split
 ·rename_i h
  simp only [Lib.atoi, decNat_val]
  simp
  omega
 ·rename_i h
  have hd := qXr (qJk n.toNat)
  have hv := decNat_val n.toNat
  cases hl : Lib.decDigits n.toNat with
  | nil => exact absurd hl (decDigits_ne _)
  | cons b r =>
   rw [hl] at hd hv
   have hb := hd b List.mem_cons_self
   have h45 : ¬ (b == 45) = true := fun e => by
    have := beq_iff_eq.1 e; subst this; simp at hb
   have h43 : ¬ (b == 43) = true := fun e => by
    have := beq_iff_eq.1 e; subst this; simp at hb
   simp only [Lib.atoi]
   rw [if_neg h45, if_neg h43, hv]
   simp
   omega
theorem num_some {l : List UInt8} {n : Int} (h : numP l n) : numO l = some n := by
 cases h1 : numO l with
 | none =>
  unfold numO at h1
  rw [dif_pos ⟨n, h⟩] at h1
  cases h1
 | some m =>
  have h2 := numO_ok h1
  have h3 := itoa_atoi n
  rw [h.2.2, ← h2.2.2, itoa_atoi] at h3
  exact h3
theorem num_none {l : List UInt8} (h : ∀ n, ¬ numP l n) : numO l = none := by
 unfold numO
 rw [dif_neg fun ⟨n, hn⟩ => h n hn]
def bodyL : List UInt8 → List UInt8
 | [] => []
 | b :: r => if b = 45 then r else b :: r
theorem dig_lt {u : Nat} (h : (Lib.decDigits u).length ≤ 9) : u < 1000000000 := by
 have h1 := qVj _ _ _ (qJk u)
 have h2 : 10 ^ (Lib.decDigits u).length ≤ 10 ^ 9 := Nat.pow_le_pow_right (by omega) h
 have : (10 : Nat) ^ 9 = 1000000000 := by decide
 omega
theorem body_itoa (n : Int) : bodyL (Lib.itoa n) = Lib.decDigits n.natAbs := by
 unfold Lib.itoa
 split
 ·rfl
 ·rename_i h
  rw [show n.toNat = n.natAbs by omega]
  have hd := qXr (qJk n.natAbs)
  cases hl : Lib.decDigits n.natAbs with
  | nil => rfl
  | cons b r =>
   rw [hl] at hd
   have hb := hd b List.mem_cons_self
   simp only [bodyL]
   rw [if_neg fun e => by subst e; simp at hb]
theorem numP_iff {l : List UInt8} {n : Int} : numP l n ↔ Lib.itoa n = l ∧ (bodyL l).length ≤ 9 := by
 constructor
 ·rintro ⟨h1, h2, h3⟩
  refine ⟨h3, ?_⟩
  rw [← h3, body_itoa]
  exact qKm 8 _ (by have : (10 : Nat) ^ 9 = 1000000000 := by decide
                    omega)
 ·rintro ⟨h1, h2⟩
  rw [← h1, body_itoa] at h2
  have := dig_lt h2
  exact ⟨by omega, by omega, h1⟩
theorem num_of {l : List UInt8} (h9 : (bodyL l).length ≤ 9) {n : Int} (ha : Lib.atoi l = some n) : numO l = if Lib.itoa n = l then some n else none := by
 split
 ·rename_i h; exact num_some (numP_iff.2 ⟨h, h9⟩)
 ·rename_i h
  refine num_none fun m hm => h ?_
  have h1 := itoa_atoi m
  rw [hm.2.2, ha] at h1
  cases h1
  exact hm.2.2
theorem num_no {l : List UInt8} (ha : Lib.atoi l = none) : numO l = none := num_none fun m hm => by
 have h1 := itoa_atoi m
 rw [hm.2.2, ha] at h1
 cases h1
theorem num_long {l : List UInt8} (h9 : 9 < (bodyL l).length) : numO l = none := num_none fun m hm => by
 have := (numP_iff.1 hm).2
 omega
theorem qKv {s : Int} (h : numO (bytL s) = none) : 0 = numZ s ∧ numK s = 0 := by
 unfold numZ numK
 rw [h]
 exact ⟨rfl, rfl⟩
theorem num_one {s n : Int} (h : numO (bytL s) = some n) : n = numZ s ∧ ¬ numK s = 0 := by
 unfold numZ numK
 rw [h]
 exact ⟨rfl, by simp⟩
theorem num_leaf {s : Int} (h9 : (bodyL (bytL s)).length ≤ 9) (hs : qQz s ≤ 18) :
  (¬ atoK s = 0 → (seqZ (itoZ (atoZ s)) s = 0 → 0 = numZ s ∧ numK s = 0) ∧ (¬ seqZ (itoZ (atoZ s)) s = 0 → atoZ s = numZ s ∧ ¬ numK s = 0)) ∧ (atoK s = 0 → 0 = numZ s ∧ numK s = 0) := by
 have hl := qZu s
 cases ha : Lib.atoi (bytL s) with
 | none =>
  have hk : atoK s = 0 := by
   unfold atoK
   have : Lib.atoi (qQj s).data.toList = none := ha
   rw [this]; rfl
  exact ⟨fun h => absurd hk h, fun _ => qKv (num_no ha)⟩
 | some n =>
  have ha' : Lib.atoi (qQj s).data.toList = some n := ha
  have hk : atoK s = 1 := by unfold atoK; rw [ha']; rfl
  have hb := atoi_bd ha (by omega)
  have hz : atoZ s = n := by unfold atoZ; rw [ha', Option.getD_some, qVk (by omega) (by omega)]
  have hn := num_of h9 ha
  have hi : seqZ (itoZ (atoZ s)) s ≠ 0 ↔ Lib.itoa n = bytL s := by rw [qYv, hz, qZn (by omega) (by omega)]
  refine ⟨fun _ => ⟨fun h => ?_, fun h => ?_⟩, fun h => by omega⟩
  ·rw [if_neg fun e => (hi.2 e) h] at hn
   exact qKv hn
  ·rw [if_pos (hi.1 h)] at hn
   rw [hz]
   exact num_one hn
theorem head_byte {s : Int} (h : 1 ≤ qQz s) : bytL (qQq 1 (qQq (qQv (rdZ s 1) 0) 0)) = [UInt8.ofNat (qQy s 0).toNat] := cut_byte (s := s) (i := 0) (by omega) (by omega)
theorem head_minus {s : Int} (h : 1 ≤ qQz s) : seqZ (qQq 1 (qQq (qQv (rdZ s 1) 0) 0)) (qQq 1 (qQq (qQq 45 0) 0)) ≠ 0 ↔ qQy s 0 = 45 := by
 rw [qYv, head_byte h, bytL_1 (by omega) (by omega)]
 constructor
 ·intro e
  have : UInt8.ofNat (qQy s 0).toNat = UInt8.ofNat 45 := (List.cons.inj e).1
  exact (byte_eq (c := 45) (by omega)).1 this
 ·intro e; rw [e]
theorem body_len {s : Int} (h : 1 ≤ qQz s) : bodyL (bytL s) = if qQy s 0 = 45 then (bytL s).drop 1 else bytL s := by
 have hd := qVz (s := s) (i := 0) (by omega) (by omega)
 have hd : bytL s = UInt8.ofNat (qQy s 0).toNat :: (bytL s).drop 1 := hd
 have e : UInt8.ofNat (qQy s 0).toNat = 45 ↔ qQy s 0 = 45 := byte_eq (c := 45) (by omega)
 rw [hd]
 simp only [bodyL, e]
 split <;> simp
theorem body_nil {s : Int} (h : qQz s < 1) : bytL s = [] := by
 have := qZu s
 have h2 := (qZo s).1
 exact List.eq_nil_of_length_eq_zero (by omega)
theorem num_nodig {l : List UInt8} {b : UInt8} (hb : b ∈ bodyL l) (h : b.toNat < 48 ∨ 57 < b.toNat) : numO l = none := num_none fun m hm => by
 have h1 := body_itoa m
 rw [hm.2.2] at h1
 rw [h1] at hb
 have := qXr (qJk m.natAbs) b hb
 omega
theorem head45 {s : Int} (h : 1 ≤ qQz s) : qQy s 0 = 45 ↔ (bytL s).head? = some 45 := by
 have hd := qVz (s := s) (i := 0) (by omega) (by omega)
 have hd : bytL s = UInt8.ofNat (qQy s 0).toNat :: (bytL s).drop 1 := hd
 have e : UInt8.ofNat (qQy s 0).toNat = 45 ↔ qQy s 0 = 45 := byte_eq (c := 45) (by omega)
 rw [hd, List.head?_cons, ← e]
 simp
theorem num_end {s v : Int} (h1 : 1 ≤ qQz s) (hv : Lib.decFrom 0 (bodyL (bytL s)) = some v.toNat) (h0 : 0 ≤ v) (h9 : v ≤ 999999999) {n : Int} (hn : n = if qQy s 0 = 45 then 0 - v else v) :
  (seqZ (itoZ n) s = 0 → 0 = numZ s ∧ numK s = 0) ∧ (¬ seqZ (itoZ n) s = 0 → n = numZ s ∧ ¬ numK s = 0) := by
 have hr : -999999999 ≤ n ∧ n ≤ 999999999 := by rw [hn]; split <;> omega
 have hi : seqZ (itoZ n) s ≠ 0 ↔ Lib.itoa n = bytL s := by rw [qYv, qZn (by omega) (by omega)]
 refine ⟨fun h => qKv (num_none fun m hm => (hi.2 ?_) h), fun h => num_one (num_some ⟨hr.1, hr.2, hi.1 h⟩)⟩
 have hb := body_itoa m
 have hh := head45 h1
 rw [hm.2.2] at hb
 rw [hb, qJk] at hv
 have hv := Option.some.inj hv
 rw [← hm.2.2]
 congr 1
 rw [hn]
 by_cases hs : m < 0
 ·have : (bytL s).head? = some 45 := by rw [← hm.2.2, itoa_neg hs]; rfl
  rw [if_pos (hh.2 this)]
  omega
 ·have : ¬ (bytL s).head? = some 45 := by
   rw [← hm.2.2]
   unfold Lib.itoa
   rw [if_neg hs]
   have hd := qXr (qJk m.toNat)
   cases hl : Lib.decDigits m.toNat with
   | nil => simp
   | cons b r =>
    rw [hl] at hd
    have hb := hd b List.mem_cons_self
    rw [List.head?_cons]
    intro e
    have := Option.some.inj e
    subst this
    simp at hb
  rw [if_neg fun e => this (hh.1 e)]
  omega
theorem num_step {s v i f : Int} (h0 : 0 ≤ f) (h1 : f ≤ i) (h2 : i < qQz s) (h9 : qQz s - f ≤ 9) (hv : Lib.decFrom 0 (((bytL s).drop f.toNat).take (i - f).toNat) = some v.toNat) (hv0 : 0 ≤ v) (h48 : 48 ≤ qQy s i) (h57 : qQy s i ≤ 57) :
  ∃ v', IntKind.wrap .i64 (IntKind.wrap .i64 (10 * v) + IntKind.wrap .u8 (qQy s i - 48)) = v' ∧ 0 ≤ v' ∧ Lib.decFrom 0 (((bytL s).drop f.toNat).take (i + 1 - f).toNat) = some v'.toNat := by
 have hl := qZu s
 have hlt := qVj _ _ _ hv
 have hlen : (((bytL s).drop f.toNat).take (i - f).toNat).length ≤ 9 := by rw [List.length_take, List.length_drop]; omega
 have hp : 10 ^ (((bytL s).drop f.toNat).take (i - f).toNat).length ≤ 10 ^ 9 := Nat.pow_le_pow_right (by omega) hlen
 have e9 : (10 : Nat) ^ 9 = 1000000000 := by decide
 have hv9 : v < 1000000000 := by omega
 have hw : IntKind.wrap .u8 (qQy s i - 48) = qQy s i - 48 := by simp [IntKind.wrap, IntKind.bits, IntKind.signed]; omega
 refine ⟨10 * v + (qQy s i - 48), by rw [hw, w64 (x := 10 * v) (by omega) (by omega), w64 (by omega) (by omega)], by omega, ?_⟩
 have hg : ((bytL s).drop f.toNat)[(i - f).toNat]? = some (UInt8.ofNat (qQy s i).toNat) := by
  rw [List.getElem?_drop, show f.toNat + (i - f).toNat = i.toNat by omega]
  have := bytL_at s i.toNat (by omega)
  rwa [show ((i.toNat : Nat) : Int) = i by omega] at this
 have hd : Lib.digitVal (UInt8.ofNat (qQy s i).toNat) = some (qQy s i - 48).toNat := by
  have := digitVal_of (d := (qQy s i - 48).toNat) (by omega)
  rwa [show 48 + (qQy s i - 48).toNat = (qQy s i).toNat by omega] at this
 have := Lib.decFrom_take _ _ 0 _ _ _ hv hg hd
 rw [show (i + 1 - f).toNat = (i - f).toNat + 1 by omega, this]
 congr 1; omega
theorem num_mem {s i f : Int} (h0 : 0 ≤ f) (h1 : f ≤ i) (h2 : i < qQz s) : UInt8.ofNat (qQy s i).toNat ∈ (bytL s).drop f.toNat := by
 have hg : ((bytL s).drop f.toNat)[(i - f).toNat]? = some (UInt8.ofNat (qQy s i).toNat) := by
  rw [List.getElem?_drop, show f.toNat + (i - f).toNat = i.toNat by omega]
  have := bytL_at s i.toNat (by omega)
  rwa [show ((i.toNat : Nat) : Int) = i by omega] at this
 exact List.mem_of_getElem? hg
theorem num_bad {s i f : Int} (hb : bodyL (bytL s) = (bytL s).drop f.toNat) (h0 : 0 ≤ f) (h1 : f ≤ i) (h2 : i < qQz s) (h : qQy s i < 48 ∨ 57 < qQy s i) : 0 = numZ s ∧ numK s = 0 :=
 qKv (num_nodig (b := UInt8.ofNat (qQy s i).toNat) (by rw [hb]; exact num_mem h0 h1 h2) (by
  have := byte_toNat s i
  omega))
theorem Tx.cons {x c : Int} {w : List UInt8} {W : List (List UInt8)} (hx : bytL x = w) (h : Tx c W) : Tx (qQq x c) (w :: W) := by
 intro i hi
 cases i with
 | zero => rw [show ((0 : Nat) : Int) = 0 from rfl, qQa, hx]; rfl
 | succ i =>
  rw [qQd _ _ (by omega), show ((i + 1 : Nat) : Int) - 1 = (i : Nat) by omega]
  exact h i (by simpa using hi)
theorem txL_of {q n : Int} {W : List (List UInt8)} (h : Tx q W) (hn : n = W.length) : txL q n = W := by
 unfold txL
 apply List.ext_getElem?
 intro i
 rw [List.getElem?_map]
 by_cases hi : i < W.length
 ·rw [List.getElem?_range (by omega), List.getElem?_eq_getElem hi, Option.map_some]
  congr 1
  exact h i hi
 ·rw [List.getElem?_eq_none (by simp; omega), List.getElem?_eq_none (by omega)]; rfl
theorem sep_byt : (qQj (qQq 1 (qQq (qQq 32 0) 0))).data.toList = [32] := bytL_1 (b := 32) (by omega) (by omega)
theorem join_sp (x : List UInt8) (r : List (List UInt8)) : Lib.join (x :: r) [32] = x ++ (r.map (32 :: ·)).flatten := by
 rw [Lib.join_cons]
 unfold Lib.joinTail
 rfl
theorem qKu {v : Int} (h0 : -9223372036854775808 ≤ v) (h1 : v ≤ 9223372036854775807) : bytL (catZ (qQq 1 (qQq (qQq 114 0) 0)) (itoZ v)) = 114 :: Lib.itoa v := by
 have := qQo h0 h1
 rw [qKn (by rw [qZm]; unfold qQf; omega), bytL_1 (by omega) (by omega), qZn h0 h1]
 rfl
theorem onmL_len (op : Int) : (onmL op).length ≤ 1000 := by
 unfold onmL
 split
 ·simp
 ·rw [List.length_map, List.getD_eq_getElem?_getD]
  cases h : qZa[(op - 1).toNat]? with
  | none => simp
  | some l => exact (opNames_ok l (List.mem_of_getElem? h)).2
theorem fieL_len {t v : Int} (h0 : -9223372036854775808 ≤ v) (h1 : v ≤ 9223372036854775807) : (fieL t v).length ≤ 22 := by
 have := itoa_len v h0 h1
 unfold fieL
 split
 ·simp
 ·split <;> simp <;> omega
def i64B (v : Int) : Prop := -9223372036854775808 ≤ v ∧ v ≤ 9223372036854775807
theorem texL_len {op d a b n : Int} (hd : i64B d) (ha : i64B a) (hb : i64B b) (hn : i64B n) : (texL op d a b n).length ≤ 2000 := by
 have := onmL_len op
 have h1 := fieL_len (t := shpZ op 0) hd.1 hd.2
 have h2 := fieL_len (t := shpZ op 1) ha.1 ha.2
 have h3 := fieL_len (t := shpZ op 2) hb.1 hb.2
 have h4 := fieL_len (t := shpZ op 3) hn.1 hn.2
 unfold texL
 simp only [List.length_append]
 omega
theorem texZ_I (op d a b n : Int) : texZ op d (qQq a (qQq b (qQq n 0))) = texI op d a b n := by
 unfold texZ
 simp [qQa, qQd]
theorem texI_byt {op d a b n : Int} (hd : i64B d) (ha : i64B a) (hb : i64B b) (hn : i64B n) : bytL (texI op d a b n) = if cckI op d a b n = 0 then texL op d a b n else [] := by
 have := texL_len (op := op) hd ha hb hn
 unfold texI
 split
 ·exact qXg (by unfold qQf; omega)
 ·exact qXg (by simp [qQf])
theorem txt_of {op d a b n q k : Int} {W : List (List UInt8)} (hd : i64B d) (ha : i64B a) (hb : i64B b) (hn : i64B n) (hc : cckI op d a b n = 0) (hT : Tx q W) (hk : k = W.length) (hW : Lib.join W [32] = texL op d a b n) :
  joiN q k (qQq 1 (qQq (qQq 32 0) 0)) ≤ 1000000 ∧ qQj (joiZ q k (qQq 1 (qQq (qQq 32 0) 0))) = qQj (texI op d a b n) := by
 have hl := texL_len (op := op) hd ha hb hn
 have e : Lib.join (txL q k) (qQj (qQq 1 (qQq (qQq 32 0) 0))).data.toList = texL op d a b n := by rw [txL_of hT hk, sep_byt, hW]
 refine ⟨?_, ?_⟩
 ·unfold joiN; rw [e]; omega
 ·rw [qZd, texI_byt hd ha hb hn, if_pos hc]
  have : joiZ q k (qQq 1 (qQq (qQq 32 0) 0)) = bcode (texL op d a b n) := by unfold joiZ; rw [e]; rfl
  rw [this]
  exact qXg (by unfold qQf; omega)
theorem txt_0 {op d a b n : Int} (hd : i64B d) (ha : i64B a) (hb : i64B b) (hn : i64B n) (hc : cckI op d a b n = 0) (h : 1 ≤ op ∧ op ≤ 23) : joiN (qQq (onmZ op) (qQq (catZ (qQq 1 (qQq (qQq 114 0) 0)) (itoZ d)) (qQq (catZ (qQq 1 (qQq (qQq 114 0) 0)) (itoZ a)) (qQq (catZ (qQq 1 (qQq (qQq 114 0) 0)) (itoZ b)) 0)))) 4 (qQq 1 (qQq (qQq 32 0) 0)) ≤ 1000000 ∧ qQj (joiZ (qQq (onmZ op) (qQq (catZ (qQq 1 (qQq (qQq 114 0) 0)) (itoZ d)) (qQq (catZ (qQq 1 (qQq (qQq 114 0) 0)) (itoZ a)) (qQq (catZ (qQq 1 (qQq (qQq 114 0) 0)) (itoZ b)) 0)))) 4 (qQq 1 (qQq (qQq 32 0) 0))) = qQj (texI op d a b n) := by
 obtain ⟨h0, h1, h2, h3⟩ := shp_0 h
 refine txt_of hd ha hb hn hc (Tx.cons (qXb op) (Tx.cons (qKu hd.1 hd.2) (Tx.cons (qKu ha.1 ha.2) (Tx.cons (qKu hb.1 hb.2) (Tx.nil 0))))) rfl ?_
 rw [join_sp]
 unfold texL fieL
 rw [h0, h1, h2, h3]
 simp
theorem txt_1 {op d a b n : Int} (hd : i64B d) (ha : i64B a) (hb : i64B b) (hn : i64B n) (hc : cckI op d a b n = 0) (h : 24 ≤ op ∧ op ≤ 30) : joiN (qQq (onmZ op) (qQq (catZ (qQq 1 (qQq (qQq 114 0) 0)) (itoZ d)) (qQq (catZ (qQq 1 (qQq (qQq 114 0) 0)) (itoZ a)) 0))) 3 (qQq 1 (qQq (qQq 32 0) 0)) ≤ 1000000 ∧ qQj (joiZ (qQq (onmZ op) (qQq (catZ (qQq 1 (qQq (qQq 114 0) 0)) (itoZ d)) (qQq (catZ (qQq 1 (qQq (qQq 114 0) 0)) (itoZ a)) 0))) 3 (qQq 1 (qQq (qQq 32 0) 0))) = qQj (texI op d a b n) := by
 obtain ⟨h0, h1, h2, h3⟩ := shp_1 h
 refine txt_of hd ha hb hn hc (Tx.cons (qXb op) (Tx.cons (qKu hd.1 hd.2) (Tx.cons (qKu ha.1 ha.2) (Tx.nil 0)))) rfl ?_
 rw [join_sp]
 unfold texL fieL
 rw [h0, h1, h2, h3]
 simp
theorem txt_2 {op d a b n : Int} (hd : i64B d) (ha : i64B a) (hb : i64B b) (hn : i64B n) (hc : cckI op d a b n = 0) (h : op = 31) : joiN (qQq (onmZ op) (qQq (catZ (qQq 1 (qQq (qQq 114 0) 0)) (itoZ d)) (qQq (catZ (qQq 1 (qQq (qQq 114 0) 0)) (itoZ a)) (qQq (itoZ n) 0)))) 4 (qQq 1 (qQq (qQq 32 0) 0)) ≤ 1000000 ∧ qQj (joiZ (qQq (onmZ op) (qQq (catZ (qQq 1 (qQq (qQq 114 0) 0)) (itoZ d)) (qQq (catZ (qQq 1 (qQq (qQq 114 0) 0)) (itoZ a)) (qQq (itoZ n) 0)))) 4 (qQq 1 (qQq (qQq 32 0) 0))) = qQj (texI op d a b n) := by
 obtain ⟨h0, h1, h2, h3⟩ := shp_2 h
 refine txt_of hd ha hb hn hc (Tx.cons (qXb op) (Tx.cons (qKu hd.1 hd.2) (Tx.cons (qKu ha.1 ha.2) (Tx.cons (qZn hn.1 hn.2) (Tx.nil 0))))) rfl ?_
 rw [join_sp]
 unfold texL fieL
 rw [h0, h1, h2, h3]
 simp
theorem txt_3 {op d a b n : Int} (hd : i64B d) (ha : i64B a) (hb : i64B b) (hn : i64B n) (hc : cckI op d a b n = 0) (h : op = 32 ∨ (34 ≤ op ∧ op ≤ 38)) : joiN (qQq (onmZ op) (qQq (catZ (qQq 1 (qQq (qQq 114 0) 0)) (itoZ d)) (qQq (catZ (qQq 1 (qQq (qQq 114 0) 0)) (itoZ a)) (qQq (itoZ n) 0)))) 4 (qQq 1 (qQq (qQq 32 0) 0)) ≤ 1000000 ∧ qQj (joiZ (qQq (onmZ op) (qQq (catZ (qQq 1 (qQq (qQq 114 0) 0)) (itoZ d)) (qQq (catZ (qQq 1 (qQq (qQq 114 0) 0)) (itoZ a)) (qQq (itoZ n) 0)))) 4 (qQq 1 (qQq (qQq 32 0) 0))) = qQj (texI op d a b n) := by
 obtain ⟨h0, h1, h2, h3⟩ := shp_3 h
 refine txt_of hd ha hb hn hc (Tx.cons (qXb op) (Tx.cons (qKu hd.1 hd.2) (Tx.cons (qKu ha.1 ha.2) (Tx.cons (qZn hn.1 hn.2) (Tx.nil 0))))) rfl ?_
 rw [join_sp]
 unfold texL fieL
 rw [h0, h1, h2, h3]
 simp
theorem txt_4 {op d a b n : Int} (hd : i64B d) (ha : i64B a) (hb : i64B b) (hn : i64B n) (hc : cckI op d a b n = 0) (h : op = 33 ∨ op = 40) : joiN (qQq (onmZ op) (qQq (catZ (qQq 1 (qQq (qQq 114 0) 0)) (itoZ d)) (qQq (itoZ n) 0))) 3 (qQq 1 (qQq (qQq 32 0) 0)) ≤ 1000000 ∧ qQj (joiZ (qQq (onmZ op) (qQq (catZ (qQq 1 (qQq (qQq 114 0) 0)) (itoZ d)) (qQq (itoZ n) 0))) 3 (qQq 1 (qQq (qQq 32 0) 0))) = qQj (texI op d a b n) := by
 obtain ⟨h0, h1, h2, h3⟩ := shp_4 h
 refine txt_of hd ha hb hn hc (Tx.cons (qXb op) (Tx.cons (qKu hd.1 hd.2) (Tx.cons (qZn hn.1 hn.2) (Tx.nil 0)))) rfl ?_
 rw [join_sp]
 unfold texL fieL
 rw [h0, h1, h2, h3]
 simp
theorem txt_5 {op d a b n : Int} (hd : i64B d) (ha : i64B a) (hb : i64B b) (hn : i64B n) (hc : cckI op d a b n = 0) (h : op = 39) : joiN (qQq (onmZ op) (qQq (itoZ n) 0)) 2 (qQq 1 (qQq (qQq 32 0) 0)) ≤ 1000000 ∧ qQj (joiZ (qQq (onmZ op) (qQq (itoZ n) 0)) 2 (qQq 1 (qQq (qQq 32 0) 0))) = qQj (texI op d a b n) := by
 obtain ⟨h0, h1, h2, h3⟩ := shp_5 h
 refine txt_of hd ha hb hn hc (Tx.cons (qXb op) (Tx.cons (qZn hn.1 hn.2) (Tx.nil 0))) rfl ?_
 rw [join_sp]
 unfold texL fieL
 rw [h0, h1, h2, h3]
 simp
theorem txt_6 {op d a b n : Int} (hd : i64B d) (ha : i64B a) (hb : i64B b) (hn : i64B n) (hc : cckI op d a b n = 0) (h : op = 41) : joiN (qQq (onmZ op) (qQq (catZ (qQq 1 (qQq (qQq 114 0) 0)) (itoZ a)) 0)) 2 (qQq 1 (qQq (qQq 32 0) 0)) ≤ 1000000 ∧ qQj (joiZ (qQq (onmZ op) (qQq (catZ (qQq 1 (qQq (qQq 114 0) 0)) (itoZ a)) 0)) 2 (qQq 1 (qQq (qQq 32 0) 0))) = qQj (texI op d a b n) := by
 obtain ⟨h0, h1, h2, h3⟩ := shp_6 h
 refine txt_of hd ha hb hn hc (Tx.cons (qXb op) (Tx.cons (qKu ha.1 ha.2) (Tx.nil 0))) rfl ?_
 rw [join_sp]
 unfold texL fieL
 rw [h0, h1, h2, h3]
 simp
theorem txt_7 {op d a b n : Int} (hd : i64B d) (ha : i64B a) (hb : i64B b) (hn : i64B n) (hc : cckI op d a b n = 0) (h : op = 42 ∨ op = 43) : joiN (qQq (onmZ op) 0) 1 (qQq 1 (qQq (qQq 32 0) 0)) ≤ 1000000 ∧ qQj (joiZ (qQq (onmZ op) 0) 1 (qQq 1 (qQq (qQq 32 0) 0))) = qQj (texI op d a b n) := by
 obtain ⟨h0, h1, h2, h3⟩ := shp_7 h
 refine txt_of hd ha hb hn hc (Tx.cons (qXb op) (Tx.nil 0)) rfl ?_
 rw [join_sp]
 unfold texL fieL
 rw [h0, h1, h2, h3]
 simp
theorem slen_onm (op : Int) : qQz (onmZ op) ≤ 1000 := by
 have h1 := qZu (onmZ op)
 rw [qXb] at h1
 have := onmL_len op
 omega
theorem fld_r {s v : Int} (hs : qQz s ≤ 5000) (hv : i64B v) : qQz (catZ s (qQq 1 (qQq (qQq 32 0) 0))) = qQz s + 1 ∧ qQz (catZ (catZ s (qQq 1 (qQq (qQq 32 0) 0))) (qQq 1 (qQq (qQq 114 0) 0))) = qQz s + 2 ∧
  qQz (catZ (catZ (catZ s (qQq 1 (qQq (qQq 32 0) 0))) (qQq 1 (qQq (qQq 114 0) 0))) (itoZ v)) ≤ qQz s + 22 ∧
  bytL (catZ (catZ (catZ s (qQq 1 (qQq (qQq 32 0) 0))) (qQq 1 (qQq (qQq 114 0) 0))) (itoZ v)) = bytL s ++ fieL 1 v := by
 have h0 := (qZo s).1
 have h3 := qQo hv.1 hv.2
 have e1 : qQz (catZ s (qQq 1 (qQq (qQq 32 0) 0))) = qQz s + 1 := by rw [qKt _ _ (by rw [qZm]; unfold qQf; omega), qZm]
 have e2 : qQz (catZ (catZ s (qQq 1 (qQq (qQq 32 0) 0))) (qQq 1 (qQq (qQq 114 0) 0))) = qQz s + 2 := by rw [qKt _ _ (by rw [qZm, e1]; unfold qQf; omega), qZm, e1]; omega
 refine ⟨e1, e2, ?_, ?_⟩
 ·rw [qKt _ _ (by rw [e2]; unfold qQf; omega), e2]; omega
 ·rw [qKn (by rw [e2]; unfold qQf; omega), qKn (by rw [qZm, e1]; unfold qQf; omega), qKn (by rw [qZm]; unfold qQf; omega), bytL_1 (by omega) (by omega), bytL_1 (by omega) (by omega), qZn hv.1 hv.2]
  unfold fieL
  simp
theorem fld_n {s v t : Int} (hs : qQz s ≤ 5000) (hv : i64B v) (ht : t = 2 ∨ t = 3) : qQz (catZ s (qQq 1 (qQq (qQq 32 0) 0))) = qQz s + 1 ∧
  qQz (catZ (catZ s (qQq 1 (qQq (qQq 32 0) 0))) (itoZ v)) ≤ qQz s + 21 ∧
  bytL (catZ (catZ s (qQq 1 (qQq (qQq 32 0) 0))) (itoZ v)) = bytL s ++ fieL t v := by
 have h0 := (qZo s).1
 have h3 := qQo hv.1 hv.2
 have e1 : qQz (catZ s (qQq 1 (qQq (qQq 32 0) 0))) = qQz s + 1 := by rw [qKt _ _ (by rw [qZm]; unfold qQf; omega), qZm]
 refine ⟨e1, ?_, ?_⟩
 ·rw [qKt _ _ (by rw [e1]; unfold qQf; omega), e1]; omega
 ·rw [qKn (by rw [e1]; unfold qQf; omega), qKn (by rw [qZm]; unfold qQf; omega), bytL_1 (by omega) (by omega), qZn hv.1 hv.2]
  unfold fieL
  rcases ht with rfl | rfl <;> simp
end Go.Eng
end
