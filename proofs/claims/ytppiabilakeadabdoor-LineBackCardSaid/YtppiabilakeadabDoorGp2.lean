/-
  Parts of the engine, a program's symbolic run, proved sound; and of plain laws.
-/
import Derived.Test.YtppiabilakeadabDoorGu5
import Derived.Test.YtppiabilakeadabDoorGp1
set_option linter.unusedVariables false
set_option linter.unusedSimpArgs false
/-!  -/
noncomputable section
namespace Go.Eng
theorem qZb (s : Int) : ((bytL s).length : Int) = qQz s := by
 have h := qZq s
 have : (bytL s).length = (qQj s).size := by unfold bytL; simp
 omega
theorem strOf_bytL (s : Int) : qQj s = ⟨(bytL s).toArray⟩ := by unfold bytL; simp
theorem qKe {a b : Int} : qQj a = qQj b ↔ bytL a = bytL b := by
 constructor
 ·intro h; unfold bytL; rw [h]
 ·intro h; rw [strOf_bytL a, strOf_bytL b, h]
theorem qKp {a b : Int} : seqZ a b ≠ 0 ↔ bytL a = bytL b := by
 rw [← qKe]; unfold seqZ; split <;> simp_all
theorem bytL_cat {a b : Int} (h : qQz a + qQz b ≤ qQt) : bytL (catZ a b) = bytL a ++ bytL b := by
 unfold bytL
 rw [strOf_cat a b h, ByteArray.data_append]; simp
theorem qXy {l : List UInt8} (h : (l.length : Int) ≤ qQt) : bytL (bcode l) = l := by
 unfold bytL bcode
 rw [code_strZ]
 have : (⟨l.toArray⟩ : ByteArray).size = l.length := by show Array.size _ = _; simp
 omega
theorem bytL_at (s : Int) (i : Nat) (h : (i : Int) < qQz s) : (bytL s)[i]? = some (UInt8.ofNat (qZx s i).toNat) := by
 unfold bytL
 rw [Array.getElem?_toList]; exact qYk s i h
theorem byte_toNat (s i : Int) : ((UInt8.ofNat (qZx s i).toNat).toNat : Int) = qZx s i := by
 have := sbyteZ_bd s i
 simp only [UInt8.toNat_ofNat']
 omega
theorem bytL_mk {n q : Int} {l : List UInt8} (hn : n = l.length) (hl : n ≤ qQt) (hq : ∀ i : Nat, (h : i < l.length) → rdZ q i % 256 = (l[i].toNat : Int)) : bytL (qQq n (qQq q 0)) = l := by
 have hs : qQz (qQq n (qQq q 0)) = n := by
  unfold qQz
  rw [qQa, if_neg (by omega), if_neg (by omega)]
 apply List.ext_getElem?
 intro i
 by_cases hi : i < l.length
 ·rw [bytL_at _ i (by omega), List.getElem?_eq_getElem hi]
  congr 1
  have : qZx (qQq n (qQq q 0)) i = (l[i].toNat : Int) := by
   unfold qZx
   rw [qQp _ _ (by omega), show (1 : Int) - 1 = 0 by omega, qQa]
   exact hq i hi
  rw [this]; simp
 ·have h := qZb (qQq n (qQq q 0))
  rw [List.getElem?_eq_none (by omega), List.getElem?_eq_none (by omega)]
theorem bytL_cut {s l h : Int} (h0 : 0 ≤ l) (h1 : l ≤ h) (h2 : h ≤ qQz s) : bytL (qQq (h - l) (qQq (qQy (rdZ s 1) l) 0)) = ((bytL s).drop l.toNat).take (h - l).toNat := by
 have hb := qJq s
 have hlen := qZb s
 refine bytL_mk ?_ (by omega) fun i hi => ?_
 ·rw [List.length_take, List.length_drop]; omega
 ·have hi' : (i : Int) < h - l := by rw [List.length_take, List.length_drop] at hi; omega
  rw [List.getElem_take, List.getElem_drop]
  have h3 := bytL_at s (l.toNat + i) (by omega)
  rw [List.getElem?_eq_getElem (by omega)] at h3
  rw [Option.some.inj h3, byte_toNat]
  unfold qZx
  rw [rdZ_drop, show (l.toNat + (i : Int).toNat : Nat) = l.toNat + i by omega]
theorem bytL_e : bytL (qQq 0 (qQq 0 0)) = [] := bytL_mk rfl (by unfold qQt; omega) fun i hi => by simp at hi
theorem bytL_1 {b : Int} (h0 : 0 ≤ b) (h1 : b ≤ 255) : bytL (qQq 1 (qQq (qQq b 0) 0)) = [UInt8.ofNat b.toNat] := bytL_mk rfl (by unfold qQt; omega) fun i hi => by
 have : i = 0 := by simpa using hi
 subst this
 simp only [List.getElem_cons_zero, UInt8.toNat_ofNat']
 rw [show ((0 : Nat) : Int) = 0 from rfl, qQa]
 omega
theorem qKh {n : Int} (h0 : -9223372036854775808 ≤ n) (h1 : n ≤ 9223372036854775807) : bytL (itoZ n) = Lib.itoa n :=
 qXy (by have := itoa_len n h0 h1; unfold qQt; omega)
theorem qKc {n : Int} (h0 : 0 ≤ n) (h1 : n < 10) : Lib.itoa n = [UInt8.ofNat (48 + n.toNat)] := by
 unfold Lib.itoa
 rw [if_neg (by omega), Lib.decDigits, dif_pos (by omega)]
theorem itoa_big {n : Int} (h1 : 10 ≤ n) : Lib.itoa n = Lib.itoa (n / 10) ++ Lib.itoa (n % 10) := by
 have e1 : (n / 10).toNat = n.toNat / 10 := by omega
 have e2 : (n % 10).toNat = n.toNat % 10 := by omega
 rw [qKc (n := n % 10) (by omega) (by omega), e2]
 unfold Lib.itoa
 rw [if_neg (by omega), if_neg (by omega), e1, Lib.decDigits, dif_neg (by omega)]
theorem itoa_neg {n : Int} (h1 : n < 0) : Lib.itoa n = 45 :: Lib.itoa (0 - n) := by
 unfold Lib.itoa
 rw [if_pos h1, if_neg (by omega), show (0 - n).toNat = n.natAbs by omega]
theorem slenZ_lit (l : List Int) (n : Int) (h : 0 ≤ n) (h2 : n ≤ qQt) (c : Int) : qQz (qQq n c) = n := by
 unfold qQz
 rw [qQa, if_neg (by omega), if_neg (by omega)]
theorem slen_ito {n : Int} (h0 : -9223372036854775808 ≤ n) (h1 : n ≤ 9223372036854775807) : qQz (itoZ n) ≤ 20 := by
 have := qZb (itoZ n)
 have h2 := itoa_len n h0 h1
 rw [qKh h0 h1] at this
 omega
theorem qXe (c : Int) : qQz (qQq 1 c) = 1 := slenZ_lit [] 1 (by omega) (by unfold qQt; omega) _
theorem slen_0 (c : Int) : qQz (qQq 0 c) = 0 := slenZ_lit [] 0 (by omega) (by unfold qQt; omega) _
theorem index_no : ∀ (w : List UInt8), (∀ x ∈ w, x ≠ 32) → Lib.index w [32] = -1
 | [], _ => rfl
 | b :: l, h => by
  have h1 := index_no l fun x hx => h x (List.mem_cons_of_mem _ hx)
  have hb : b ≠ 32 := h b List.mem_cons_self
  unfold Lib.index
  rw [if_neg (by simp [List.isPrefixOf]; exact fun e => hb e.symm), h1]
  rfl
theorem index_at : ∀ (w r : List UInt8), (∀ x ∈ w, x ≠ 32) → Lib.index (w ++ 32 :: r) [32] = w.length
 | [], r, _ => by simp [Lib.index, List.isPrefixOf]
 | b :: l, r, h => by
  have h1 := index_at l r fun x hx => h x (List.mem_cons_of_mem _ hx)
  have hb : b ≠ 32 := h b List.mem_cons_self
  rw [List.cons_append]
  unfold Lib.index
  rw [if_neg (by simp [List.isPrefixOf]; exact fun e => hb e.symm), h1, if_neg (by simp)]
  simp
theorem split_words : ∀ (l w : List UInt8) (k : Nat), (∀ x ∈ w, x ≠ 32) → l.count 32 ≤ k → (Lib.splitK [32] 0 k (w ++ l)).filter (fun x => decide (x ≠ [])) = wgo w l
 | [], w, k, h, _ => by
  have h1 := index_no w h
  have : Lib.splitK [32] 0 k (w ++ []) = [w] := by
   rw [List.append_nil]
   cases k with
   | zero => rfl
   | succ k => unfold Lib.splitK; rw [h1]; rfl
  rw [this]
  unfold wgo
  by_cases hw : w = [] <;> simp [hw]
 | b :: r, w, k, h, hk => by
  unfold wgo
  by_cases hb : b = 32
  ·subst hb
   rw [if_pos rfl]
   cases k with
   | zero => simp at hk
   | succ k =>
    have h1 := index_at w r h
    have h2 := split_words r [] k (fun x hx => by simp at hx) (by simp at hk; omega)
    rw [List.nil_append] at h2
    unfold Lib.splitK
    rw [h1, if_neg (by simp)]
    have e1 : ((w.length : Int)).toNat = w.length := by simp
    rw [e1, Nat.add_zero, List.take_left', show w.length + [(32 : UInt8)].length = w.length + 1 from rfl]
    have e2 : (w ++ 32 :: r).drop (w.length + 1) = r := by
     rw [show w ++ 32 :: r = (w ++ [32]) ++ r by simp, List.drop_left' (by simp)]
    rw [e2, List.filter_cons, h2]
    by_cases hw : w = [] <;> simp [hw]
    rfl
  ·rw [if_neg hb]
   have h2 := split_words r (w ++ [b]) k (fun x hx => by
    rcases List.mem_append.1 hx with hx | hx
    ·exact h x hx
    ·simp at hx; subst hx; exact hb) (by rw [List.count_cons_of_ne (fun e => hb e)] at hk; exact hk)
   rw [List.append_assoc] at h2
   exact h2
def Tx (q : Int) (W : List (List UInt8)) : Prop := ∀ i : Nat, (h : i < W.length) → bytL (rdZ q i) = W[i]
theorem Tx.nil (q : Int) : Tx q [] := fun i h => by simp at h
theorem Tx.snoc {q : Int} {W : List (List UInt8)} (h : Tx q W) {n x : Int} {w : List UInt8} (hn : n = W.length) (hx : bytL x = w) : Tx (updZ q n x) (W ++ [w]) := by
 intro i hi
 rw [qXq]
 rw [List.length_append, List.length_singleton] at hi
 by_cases e : i = W.length
 ·rw [if_pos (by omega), hx]
  simp [e]
 ·rw [if_neg (by omega), List.getElem_append_left (by omega)]
  exact h i (by omega)
theorem Tx.code {W : List (List UInt8)} (h : ∀ w ∈ W, (w.length : Int) ≤ qQt) : Tx (LZ (W.map bcode)) W := by
 intro i hi
 unfold rdZ
 rw [ZL_LZ]
 simp only [Int.toNat_natCast, List.getD_eq_getElem?_getD, List.getElem?_map, List.getElem?_eq_getElem hi, Option.map_some, Option.getD_some]
 exact qXy (h _ (List.getElem_mem hi))
theorem Tx.eq {q c : Int} {W : List (List UInt8)} (h : Tx q W) (k : Tx c W) {n : Int} (hn : n ≤ W.length) : rowEq [.str] q c n := by
 intro i hi
 have h1 := h i (by omega)
 have h2 := k i (by omega)
 have : qQj (rdZ q i) = qQj (rdZ c i) := qKe.2 (h1.trans h2.symm)
 simp only [qQf, ckV, this]
theorem wgo_size : ∀ (l w x : List UInt8), x ∈ wgo w l → x.length ≤ w.length + l.length
 | [], w, x, h => by
  unfold wgo at h
  split at h
  ·simp at h
  ·simp at h; subst h; simp
 | b :: r, w, x, h => by
  unfold wgo at h
  split at h
  ·split at h
   ·have := wgo_size r [] x h; simp only [List.length_cons, List.length_nil] at *; omega
   ·rcases List.mem_cons.1 h with rfl | h
    ·simp only [List.length_cons]; omega
    ·have := wgo_size r [] x h; simp only [List.length_cons, List.length_nil] at *; omega
  ·have := wgo_size r _ x h
   simp only [List.length_cons, List.length_append, List.length_nil] at *; omega
theorem qKd (s : Int) : Tx (wrdC s) (wrdL s) := Tx.code fun w hw => by
 have h1 := wgo_size _ _ _ hw
 have h2 := qZb s
 have h3 := (qJq s).2
 simp only [List.length_nil] at h1
 omega
def splP (s : Int) : List (List UInt8) := (splL s 32).map (·.data.toList)
theorem splP_words (s : Int) : (splP s).filter (fun x => decide (x ≠ [])) = wrdL s := by
 unfold splP splL
 rw [Lib.splitB_data]
 have e1 : (oneB 32).data.toList = [32] := rfl
 have e2 : Lib.countB (qQj s) (oneB 32) = (bytL s).count 32 := Lib.count_one 32 (bytL s)
 rw [e1, e2]
 exact split_words (bytL s) [] _ (fun x hx => by simp at hx) (Nat.le_refl _)
theorem splP_len (s : Int) : ((splP s).length : Int) = splN s 32 := by
 have h := Lib.splitB_all (oneB 32) (Nat.le_refl _) 0 _ (qQj s) rfl
 unfold splP splN splL
 rw [List.length_map, h]
 omega
theorem splP_tx (s : Int) : Tx (splC s 32) (splP s) := by
 have h1 := (qJq s).2
 have h2 := qZq s
 have : splC s 32 = LZ ((splP s).map bcode) := by
  unfold splC splP bcode
  rw [List.map_map]
  rfl
 rw [this]
 refine Tx.code fun w hw => ?_
 unfold splP at hw
 obtain ⟨b, hb, rfl⟩ := List.mem_map.1 hw
 have h3 := splitB_size (oneB 32) _ _ _ hb
 have : b.data.toList.length = b.size := by simp
 omega
theorem splN_le (s : Int) : splN s 32 ≤ qQz s + 1 := by
 have h := Lib.countB_le (oneB 32) (Nat.le_refl _) (qQj s).size (qQj s) (Nat.le_refl _)
 have h1 := qZq s
 unfold splN
 omega
def wdsK (P : List (List UInt8)) (k : Nat) : List (List UInt8) := (P.take k).filter (fun x => decide (x ≠ []))
theorem wdsK_le (P : List (List UInt8)) (k : Nat) : (wdsK P k).length ≤ k := by
 unfold wdsK
 have := List.length_filter_le (fun x => decide (x ≠ [])) (P.take k)
 rw [List.length_take] at this
 omega
theorem wdsK_succ {P : List (List UInt8)} {k : Nat} (h : k < P.length) : wdsK P (k + 1) = if P[k] = [] then wdsK P k else wdsK P k ++ [P[k]] := by
 unfold wdsK
 rw [List.take_succ_eq_append_getElem h, List.filter_append]
 by_cases e : P[k] = [] <;> simp [e]
theorem drop_byte {s i : Int} (h0 : 0 ≤ i) (h1 : i < qQz s) : (bytL s).drop i.toNat = UInt8.ofNat (qZx s i).toNat :: (bytL s).drop (i + 1).toNat := by
 have hl := qZb s
 have h := bytL_at s i.toNat (by omega)
 rw [show ((i.toNat : Nat) : Int) = i by omega] at h
 have hlt : i.toNat < (bytL s).length := by omega
 rw [List.getElem?_eq_getElem hlt] at h
 rw [List.drop_eq_getElem_cons hlt, Option.some.inj h, show (i + 1).toNat = i.toNat + 1 by omega]
theorem byte_eq {s i : Int} {c : Nat} (hc : c < 256) : UInt8.ofNat (qZx s i).toNat = UInt8.ofNat c ↔ qZx s i = c := by
 have hb := sbyteZ_bd s i
 constructor
 ·intro h
  have := congrArg UInt8.toNat h
  simp only [UInt8.toNat_ofNat'] at this
  omega
 ·intro h; rw [h]; simp
theorem cut_byte {s i : Int} (h0 : 0 ≤ i) (h1 : i < qQz s) : bytL (qQq (i + 1 - i) (qQq (qQy (rdZ s 1) i) 0)) = [UInt8.ofNat (qZx s i).toNat] := by
 rw [bytL_cut h0 (by omega) (by omega), drop_byte h0 h1, show (i + 1 - i).toNat = 1 by omega]
 rfl
theorem byt_nil {w : Int} : seqZ w (qQq 0 (qQq 0 0)) ≠ 0 ↔ bytL w = [] := by rw [qKp, bytL_e]
theorem shp_0 {op : Int} (h : 1 ≤ op ∧ op ≤ 23) : shpZ op 0 = 1 ∧ shpZ op 1 = 1 ∧ shpZ op 2 = 1 ∧ shpZ op 3 = 0 := by
 unfold shpZ
 refine ⟨?_, ?_, ?_, ?_⟩ <;> simp only [Int.reduceEq, if_true, if_false] <;> omega
theorem cck_0 {op d a b n : Int} (h : 1 ≤ op ∧ op ≤ 23) : cckI op d a b n = if ¬ (0 ≤ d ∧ d ≤ 31) then 6 else if ¬ (0 ≤ a ∧ a ≤ 31) then 6 else if ¬ (0 ≤ b ∧ b ≤ 31) then 6 else if ¬ (n = 0) then 3 else 0 := by
 obtain ⟨h0, h1, h2, h3⟩ := shp_0 h
 unfold cckI fieE
 rw [h0, h1, h2, h3, if_neg (by omega)]
 simp only [Int.reduceEq, if_true, if_false]
 omega
theorem shp_1 {op : Int} (h : 24 ≤ op ∧ op ≤ 30) : shpZ op 0 = 1 ∧ shpZ op 1 = 1 ∧ shpZ op 2 = 0 ∧ shpZ op 3 = 0 := by
 unfold shpZ
 refine ⟨?_, ?_, ?_, ?_⟩ <;> simp only [Int.reduceEq, if_true, if_false] <;> omega
theorem cck_1 {op d a b n : Int} (h : 24 ≤ op ∧ op ≤ 30) : cckI op d a b n = if ¬ (0 ≤ d ∧ d ≤ 31) then 6 else if ¬ (0 ≤ a ∧ a ≤ 31) then 6 else if ¬ (b = 0) then 3 else if ¬ (n = 0) then 3 else 0 := by
 obtain ⟨h0, h1, h2, h3⟩ := shp_1 h
 unfold cckI fieE
 rw [h0, h1, h2, h3, if_neg (by omega)]
 simp only [Int.reduceEq, if_true, if_false]
 omega
theorem shp_2 {op : Int} (h : op = 31) : shpZ op 0 = 1 ∧ shpZ op 1 = 1 ∧ shpZ op 2 = 0 ∧ shpZ op 3 = 2 := by
 unfold shpZ
 refine ⟨?_, ?_, ?_, ?_⟩ <;> simp only [Int.reduceEq, if_true, if_false] <;> omega
theorem cck_2 {op d a b n : Int} (h : op = 31) : cckI op d a b n = if ¬ (0 ≤ d ∧ d ≤ 31) then 6 else if ¬ (0 ≤ a ∧ a ≤ 31) then 6 else if ¬ (b = 0) then 3 else if ¬ (-32768 ≤ n ∧ n ≤ 32767) then 6 else 0 := by
 obtain ⟨h0, h1, h2, h3⟩ := shp_2 h
 unfold cckI fieE
 rw [h0, h1, h2, h3, if_neg (by omega)]
 simp only [Int.reduceEq, if_true, if_false]
 omega
theorem shp_3 {op : Int} (h : op = 32 ∨ (34 ≤ op ∧ op ≤ 38)) : shpZ op 0 = 1 ∧ shpZ op 1 = 1 ∧ shpZ op 2 = 0 ∧ shpZ op 3 = 3 := by
 unfold shpZ
 refine ⟨?_, ?_, ?_, ?_⟩ <;> simp only [Int.reduceEq, if_true, if_false] <;> omega
theorem cck_3 {op d a b n : Int} (h : op = 32 ∨ (34 ≤ op ∧ op ≤ 38)) : cckI op d a b n = if ¬ (0 ≤ d ∧ d ≤ 31) then 6 else if ¬ (0 ≤ a ∧ a ≤ 31) then 6 else if ¬ (b = 0) then 3 else if ¬ (0 ≤ n ∧ n ≤ 65535) then 6 else 0 := by
 obtain ⟨h0, h1, h2, h3⟩ := shp_3 h
 unfold cckI fieE
 rw [h0, h1, h2, h3, if_neg (by omega)]
 simp only [Int.reduceEq, if_true, if_false]
 omega
theorem shp_4 {op : Int} (h : op = 33 ∨ op = 40) : shpZ op 0 = 1 ∧ shpZ op 1 = 0 ∧ shpZ op 2 = 0 ∧ shpZ op 3 = 3 := by
 unfold shpZ
 refine ⟨?_, ?_, ?_, ?_⟩ <;> simp only [Int.reduceEq, if_true, if_false] <;> omega
theorem cck_4 {op d a b n : Int} (h : op = 33 ∨ op = 40) : cckI op d a b n = if ¬ (0 ≤ d ∧ d ≤ 31) then 6 else if ¬ (a = 0) then 3 else if ¬ (b = 0) then 3 else if ¬ (0 ≤ n ∧ n ≤ 65535) then 6 else 0 := by
 obtain ⟨h0, h1, h2, h3⟩ := shp_4 h
 unfold cckI fieE
 rw [h0, h1, h2, h3, if_neg (by omega)]
 simp only [Int.reduceEq, if_true, if_false]
 omega
theorem shp_5 {op : Int} (h : op = 39) : shpZ op 0 = 0 ∧ shpZ op 1 = 0 ∧ shpZ op 2 = 0 ∧ shpZ op 3 = 3 := by
 unfold shpZ
 refine ⟨?_, ?_, ?_, ?_⟩ <;> simp only [Int.reduceEq, if_true, if_false] <;> omega
theorem cck_5 {op d a b n : Int} (h : op = 39) : cckI op d a b n = if ¬ (d = 0) then 3 else if ¬ (a = 0) then 3 else if ¬ (b = 0) then 3 else if ¬ (0 ≤ n ∧ n ≤ 65535) then 6 else 0 := by
 obtain ⟨h0, h1, h2, h3⟩ := shp_5 h
 unfold cckI fieE
 rw [h0, h1, h2, h3, if_neg (by omega)]
 simp only [Int.reduceEq, if_true, if_false]
 omega
theorem shp_6 {op : Int} (h : op = 41) : shpZ op 0 = 0 ∧ shpZ op 1 = 1 ∧ shpZ op 2 = 0 ∧ shpZ op 3 = 0 := by
 unfold shpZ
 refine ⟨?_, ?_, ?_, ?_⟩ <;> simp only [Int.reduceEq, if_true, if_false] <;> omega
theorem cck_6 {op d a b n : Int} (h : op = 41) : cckI op d a b n = if ¬ (d = 0) then 3 else if ¬ (0 ≤ a ∧ a ≤ 31) then 6 else if ¬ (b = 0) then 3 else if ¬ (n = 0) then 3 else 0 := by
 obtain ⟨h0, h1, h2, h3⟩ := shp_6 h
 unfold cckI fieE
 rw [h0, h1, h2, h3, if_neg (by omega)]
 simp only [Int.reduceEq, if_true, if_false]
 omega
theorem shp_7 {op : Int} (h : op = 42 ∨ op = 43) : shpZ op 0 = 0 ∧ shpZ op 1 = 0 ∧ shpZ op 2 = 0 ∧ shpZ op 3 = 0 := by
 unfold shpZ
 refine ⟨?_, ?_, ?_, ?_⟩ <;> simp only [Int.reduceEq, if_true, if_false] <;> omega
theorem cck_7 {op d a b n : Int} (h : op = 42 ∨ op = 43) : cckI op d a b n = if ¬ (d = 0) then 3 else if ¬ (a = 0) then 3 else if ¬ (b = 0) then 3 else if ¬ (n = 0) then 3 else 0 := by
 obtain ⟨h0, h1, h2, h3⟩ := shp_7 h
 unfold cckI fieE
 rw [h0, h1, h2, h3, if_neg (by omega)]
 simp only [Int.reduceEq, if_true, if_false]
 omega
theorem cck_n {op d a b n : Int} (h : op < 1 ∨ 43 < op) : cckI op d a b n = 2 := by unfold cckI; rw [if_pos h]
theorem cckZ_I (op d a b n : Int) : cckZ op d (qQq a (qQq b (qQq n 0))) = cckI op d a b n := by
 unfold cckZ
 simp [qQa, qQp]
theorem rdZ_chS : ∀ (l : List Int) (i : Nat), rdZ (chS l) i = l.getD i 0
 | [], i => by simp [chS, rdZ_nil]
 | x :: l, 0 => by simp only [chS]; rw [show ((0 : Nat) : Int) = 0 from rfl, qQa]; rfl
 | x :: l, i + 1 => by
  simp only [chS]
  rw [qQp _ _ (by omega), show ((i + 1 : Nat) : Int) - 1 = (i : Nat) by omega, rdZ_chS l i]
  rfl
theorem bytL_cdS {l : List Int} (h : ∀ x ∈ l, 0 ≤ x ∧ x ≤ 255) (hl : l.length ≤ 1000) : bytL (cdS l) = l.map fun x => UInt8.ofNat x.toNat := by
 unfold cdS
 refine bytL_mk (by simp) (by unfold qQt; omega) fun i hi => ?_
 rw [List.length_map] at hi
 rw [rdZ_chS, List.getD_eq_getElem?_getD, List.getElem?_eq_getElem hi, Option.getD_some, List.getElem_map]
 have := h _ (List.getElem_mem hi)
 simp only [UInt8.toNat_ofNat']
 omega
theorem opNames_ok : ∀ l ∈ qXj, (∀ x ∈ l, 0 ≤ x ∧ x ≤ 255) ∧ l.length ≤ 1000 := by decide
theorem qXs (op : Int) : bytL (onmZ op) = onmL op := by
 refine qXy ?_
 unfold onmL
 split
 ·simp [qQt]
 ·rw [List.length_map, List.getD_eq_getElem?_getD]
  cases h : qXj[(op - 1).toNat]? with
  | none => simp [qQt]
  | some l =>
   have := (opNames_ok l (List.mem_of_getElem? h)).2
   simp only [Option.getD_some]
   unfold qQt
   omega
theorem onm_lit (op : Int) (l : List Int) (q : Int) (h1 : 1 ≤ op) (hl : qXj[(op - 1).toNat]? = some l) (hq : q = cdS l) : qQj q = qQj (onmZ op) := by
 obtain ⟨o1, o2⟩ := opNames_ok l (List.mem_of_getElem? hl)
 rw [qKe, qXs, hq, bytL_cdS o1 o2]
 unfold onmL
 rw [if_neg (by omega), List.getD_eq_getElem?_getD, hl]
 rfl
theorem onm_none {op : Int} (h : op < 1 ∨ 43 < op) : qQj (qQq 0 (qQq 0 0)) = qQj (onmZ op) := by
 rw [qKe, qXs, bytL_e]
 unfold onmL
 split
 ·rfl
 ·rw [List.getD_eq_getElem?_getD, List.getElem?_eq_none (by
   have : qXj.length = 43 := by decide
   omega)]
  rfl
theorem decFrom_app : ∀ (a b : List UInt8) (x : Nat), Lib.decFrom x (a ++ b) = (Lib.decFrom x a).bind fun y => Lib.decFrom y b
 | [], b, x => rfl
 | c :: a, b, x => by
  rw [List.cons_append]
  simp only [Lib.decFrom]
  cases Lib.digitVal c with
  | none => rfl
  | some d => exact decFrom_app a b _
theorem digitVal_of {d : Nat} (h : d < 10) : Lib.digitVal (UInt8.ofNat (48 + d)) = some d := by
 unfold Lib.digitVal
 have : (UInt8.ofNat (48 + d)).toNat = 48 + d := by simp only [UInt8.toNat_ofNat']; omega
 rw [this, if_pos (by omega)]
 congr 1; omega
theorem qXc : ∀ (u : Nat), Lib.decFrom 0 (Lib.decDigits u) = some u := by
 intro u
 induction u using Nat.strongRecOn with
 | _ u ih =>
  rw [Lib.decDigits]
  split
  ·rename_i h
   simp only [Lib.decFrom, digitVal_of h]
   simp
  ·rename_i h
   rw [decFrom_app, ih (u / 10) (by omega)]
   simp only [Option.bind_some, Lib.decFrom, digitVal_of (Nat.mod_lt u (by omega))]
   congr 1; omega
theorem decDigits_ne (u : Nat) : Lib.decDigits u ≠ [] := by
 rw [Lib.decDigits]
 split <;> simp
theorem decNat_val (u : Nat) : Lib.decNat (Lib.decDigits u) = some u := by
 unfold Lib.decNat
 rw [if_neg (by have := decDigits_ne u; cases h : Lib.decDigits u <;> simp_all), qXc]
theorem decFrom_digit {x n : Nat} {l : List UInt8} (h : Lib.decFrom x l = some n) : ∀ b ∈ l, 48 ≤ b.toNat ∧ b.toNat ≤ 57 := by
 induction l generalizing x with
 | nil => intro b hb; simp at hb
 | cons c l ih =>
  simp only [Lib.decFrom] at h
  cases hd : Lib.digitVal c with
  | none => rw [hd] at h; cases h
  | some d =>
   rw [hd] at h
   intro b hb
   rcases List.mem_cons.1 hb with rfl | hb
   ·unfold Lib.digitVal at hd
    split at hd
    ·assumption
    ·cases hd
   ·exact ih h b hb
theorem itoa_atoi (n : Int) : Lib.atoi (Lib.itoa n) = some n := by
 unfold Lib.itoa
 split
 ·rename_i h
  simp only [Lib.atoi, decNat_val]
  simp
  omega
 ·rename_i h
  have hd := decFrom_digit (qXc n.toNat)
  have hv := decNat_val n.toNat
  cases hl : Lib.decDigits n.toNat with
  | nil => exact absurd hl (decDigits_ne _)
  | cons b r =>
   rw [hl] at hd hv
   have hb := hd b List.mem_cons_self
   have h45 : ¬ (b == 45) = true := fun e => by
    have := beq_iff_eq.1 e; subst this; simp at hb
   have h43 : ¬ (b == 43) = true := fun e => by
    have := beq_iff_eq.1 e; subst this; simp at hb
   simp only [Lib.atoi]
   rw [if_neg h45, if_neg h43, hv]
   simp
   omega
theorem num_some {l : List UInt8} {n : Int} (h : numP l n) : numO l = some n := by
 cases h1 : numO l with
 | none =>
  unfold numO at h1
  rw [dif_pos ⟨n, h⟩] at h1
  cases h1
 | some m =>
  have h2 := numO_ok h1
  have h3 := itoa_atoi n
  rw [h.2.2, ← h2.2.2, itoa_atoi] at h3
  exact h3
theorem num_none {l : List UInt8} (h : ∀ n, ¬ numP l n) : numO l = none := by
 unfold numO
 rw [dif_neg fun ⟨n, hn⟩ => h n hn]
def bodyL : List UInt8 → List UInt8
 | [] => []
 | b :: r => if b = 45 then r else b :: r
theorem dig_lt {u : Nat} (h : (Lib.decDigits u).length ≤ 9) : u < 1000000000 := by
 have h1 := decFrom_lt _ _ _ (qXc u)
 have h2 : 10 ^ (Lib.decDigits u).length ≤ 10 ^ 9 := Nat.pow_le_pow_right (by omega) h
 have : (10 : Nat) ^ 9 = 1000000000 := by decide
 omega
theorem body_itoa (n : Int) : bodyL (Lib.itoa n) = Lib.decDigits n.natAbs := by
 unfold Lib.itoa
 split
 ·rfl
 ·rename_i h
  rw [show n.toNat = n.natAbs by omega]
  have hd := decFrom_digit (qXc n.natAbs)
  cases hl : Lib.decDigits n.natAbs with
  | nil => rfl
  | cons b r =>
   rw [hl] at hd
   have hb := hd b List.mem_cons_self
   simp only [bodyL]
   rw [if_neg fun e => by subst e; simp at hb]
theorem numP_iff {l : List UInt8} {n : Int} : numP l n ↔ Lib.itoa n = l ∧ (bodyL l).length ≤ 9 := by
 constructor
 ·rintro ⟨h1, h2, h3⟩
  refine ⟨h3, ?_⟩
  rw [← h3, body_itoa]
  exact qKw 8 _ (by have : (10 : Nat) ^ 9 = 1000000000 := by decide
                    omega)
 ·rintro ⟨h1, h2⟩
  rw [← h1, body_itoa] at h2
  have := dig_lt h2
  exact ⟨by omega, by omega, h1⟩
theorem num_of {l : List UInt8} (h9 : (bodyL l).length ≤ 9) {n : Int} (ha : Lib.atoi l = some n) : numO l = if Lib.itoa n = l then some n else none := by
 split
 ·rename_i h; exact num_some (numP_iff.2 ⟨h, h9⟩)
 ·rename_i h
  refine num_none fun m hm => h ?_
  have h1 := itoa_atoi m
  rw [hm.2.2, ha] at h1
  cases h1
  exact hm.2.2
theorem num_no {l : List UInt8} (ha : Lib.atoi l = none) : numO l = none := num_none fun m hm => by
 have h1 := itoa_atoi m
 rw [hm.2.2, ha] at h1
 cases h1
theorem num_long {l : List UInt8} (h9 : 9 < (bodyL l).length) : numO l = none := num_none fun m hm => by
 have := (numP_iff.1 hm).2
 omega
theorem num_zero {s : Int} (h : numO (bytL s) = none) : 0 = numZ s ∧ numK s = 0 := by
 unfold numZ numK
 rw [h]
 exact ⟨rfl, rfl⟩
theorem num_one {s n : Int} (h : numO (bytL s) = some n) : n = numZ s ∧ ¬ numK s = 0 := by
 unfold numZ numK
 rw [h]
 exact ⟨rfl, by simp⟩
theorem num_leaf {s : Int} (h9 : (bodyL (bytL s)).length ≤ 9) (hs : qQz s ≤ 18) :
  (¬ atoK s = 0 → (seqZ (itoZ (atoZ s)) s = 0 → 0 = numZ s ∧ numK s = 0) ∧ (¬ seqZ (itoZ (atoZ s)) s = 0 → atoZ s = numZ s ∧ ¬ numK s = 0)) ∧ (atoK s = 0 → 0 = numZ s ∧ numK s = 0) := by
 have hl := qZb s
 cases ha : Lib.atoi (bytL s) with
 | none =>
  have hk : atoK s = 0 := by
   unfold atoK
   have : Lib.atoi (qQj s).data.toList = none := ha
   rw [this]; rfl
  exact ⟨fun h => absurd hk h, fun _ => num_zero (num_no ha)⟩
 | some n =>
  have ha' : Lib.atoi (qQj s).data.toList = some n := ha
  have hk : atoK s = 1 := by unfold atoK; rw [ha']; rfl
  have hb := atoi_bd ha (by omega)
  have hz : atoZ s = n := by unfold atoZ; rw [ha', Option.getD_some, qYh (by omega) (by omega)]
  have hn := num_of h9 ha
  have hi : seqZ (itoZ (atoZ s)) s ≠ 0 ↔ Lib.itoa n = bytL s := by rw [qKp, hz, qKh (by omega) (by omega)]
  refine ⟨fun _ => ⟨fun h => ?_, fun h => ?_⟩, fun h => by omega⟩
  ·rw [if_neg fun e => (hi.2 e) h] at hn
   exact num_zero hn
  ·rw [if_pos (hi.1 h)] at hn
   rw [hz]
   exact num_one hn
theorem head_byte {s : Int} (h : 1 ≤ qQz s) : bytL (qQq 1 (qQq (qQy (rdZ s 1) 0) 0)) = [UInt8.ofNat (qZx s 0).toNat] := cut_byte (s := s) (i := 0) (by omega) (by omega)
theorem head_minus {s : Int} (h : 1 ≤ qQz s) : seqZ (qQq 1 (qQq (qQy (rdZ s 1) 0) 0)) (qQq 1 (qQq (qQq 45 0) 0)) ≠ 0 ↔ qZx s 0 = 45 := by
 rw [qKp, head_byte h, bytL_1 (by omega) (by omega)]
 constructor
 ·intro e
  have : UInt8.ofNat (qZx s 0).toNat = UInt8.ofNat 45 := (List.cons.inj e).1
  exact (byte_eq (c := 45) (by omega)).1 this
 ·intro e; rw [e]
theorem body_len {s : Int} (h : 1 ≤ qQz s) : bodyL (bytL s) = if qZx s 0 = 45 then (bytL s).drop 1 else bytL s := by
 have hd := drop_byte (s := s) (i := 0) (by omega) (by omega)
 have hd : bytL s = UInt8.ofNat (qZx s 0).toNat :: (bytL s).drop 1 := hd
 have e : UInt8.ofNat (qZx s 0).toNat = 45 ↔ qZx s 0 = 45 := byte_eq (c := 45) (by omega)
 rw [hd]
 simp only [bodyL, e]
 split <;> simp
theorem body_nil {s : Int} (h : qQz s < 1) : bytL s = [] := by
 have := qZb s
 have h2 := (qJq s).1
 exact List.eq_nil_of_length_eq_zero (by omega)
theorem Tx.cons {x c : Int} {w : List UInt8} {W : List (List UInt8)} (hx : bytL x = w) (h : Tx c W) : Tx (qQq x c) (w :: W) := by
 intro i hi
 cases i with
 | zero => rw [show ((0 : Nat) : Int) = 0 from rfl, qQa, hx]; rfl
 | succ i =>
  rw [qQp _ _ (by omega), show ((i + 1 : Nat) : Int) - 1 = (i : Nat) by omega]
  exact h i (by simpa using hi)
theorem txL_of {q n : Int} {W : List (List UInt8)} (h : Tx q W) (hn : n = W.length) : txL q n = W := by
 unfold txL
 apply List.ext_getElem?
 intro i
 rw [List.getElem?_map]
 by_cases hi : i < W.length
 ·rw [List.getElem?_range (by omega), List.getElem?_eq_getElem hi, Option.map_some]
  congr 1
  exact h i hi
 ·rw [List.getElem?_eq_none (by simp; omega), List.getElem?_eq_none (by omega)]; rfl
theorem sep_byt : (qQj (qQq 1 (qQq (qQq 32 0) 0))).data.toList = [32] := bytL_1 (b := 32) (by omega) (by omega)
theorem join_sp (x : List UInt8) (r : List (List UInt8)) : Lib.join (x :: r) [32] = x ++ (r.map (32 :: ·)).flatten := by
 rw [Lib.join_cons]
 unfold Lib.joinTail
 rfl
theorem qKf {v : Int} (h0 : -9223372036854775808 ≤ v) (h1 : v ≤ 9223372036854775807) : bytL (catZ (qQq 1 (qQq (qQq 114 0) 0)) (itoZ v)) = 114 :: Lib.itoa v := by
 have := slen_ito h0 h1
 rw [bytL_cat (by rw [qXe]; unfold qQt; omega), bytL_1 (by omega) (by omega), qKh h0 h1]
 rfl
theorem onmL_len (op : Int) : (onmL op).length ≤ 1000 := by
 unfold onmL
 split
 ·simp
 ·rw [List.length_map, List.getD_eq_getElem?_getD]
  cases h : qXj[(op - 1).toNat]? with
  | none => simp
  | some l => exact (opNames_ok l (List.mem_of_getElem? h)).2
theorem fieL_len {t v : Int} (h0 : -9223372036854775808 ≤ v) (h1 : v ≤ 9223372036854775807) : (fieL t v).length ≤ 22 := by
 have := itoa_len v h0 h1
 unfold fieL
 split
 ·simp
 ·split <;> simp <;> omega
def i64B (v : Int) : Prop := -9223372036854775808 ≤ v ∧ v ≤ 9223372036854775807
theorem texL_len {op d a b n : Int} (hd : i64B d) (ha : i64B a) (hb : i64B b) (hn : i64B n) : (texL op d a b n).length ≤ 2000 := by
 have := onmL_len op
 have h1 := fieL_len (t := shpZ op 0) hd.1 hd.2
 have h2 := fieL_len (t := shpZ op 1) ha.1 ha.2
 have h3 := fieL_len (t := shpZ op 2) hb.1 hb.2
 have h4 := fieL_len (t := shpZ op 3) hn.1 hn.2
 unfold texL
 simp only [List.length_append]
 omega
theorem texZ_I (op d a b n : Int) : texZ op d (qQq a (qQq b (qQq n 0))) = texI op d a b n := by
 unfold texZ
 simp [qQa, qQp]
theorem texI_byt {op d a b n : Int} (hd : i64B d) (ha : i64B a) (hb : i64B b) (hn : i64B n) : bytL (texI op d a b n) = if cckI op d a b n = 0 then texL op d a b n else [] := by
 have := texL_len (op := op) hd ha hb hn
 unfold texI
 split
 ·exact qXy (by unfold qQt; omega)
 ·exact qXy (by simp [qQt])
theorem txt_of {op d a b n q k : Int} {W : List (List UInt8)} (hd : i64B d) (ha : i64B a) (hb : i64B b) (hn : i64B n) (hc : cckI op d a b n = 0) (hT : Tx q W) (hk : k = W.length) (hW : Lib.join W [32] = texL op d a b n) :
  joiN q k (qQq 1 (qQq (qQq 32 0) 0)) ≤ 1000000 ∧ qQj (joiZ q k (qQq 1 (qQq (qQq 32 0) 0))) = qQj (texI op d a b n) := by
 have hl := texL_len (op := op) hd ha hb hn
 have e : Lib.join (txL q k) (qQj (qQq 1 (qQq (qQq 32 0) 0))).data.toList = texL op d a b n := by rw [txL_of hT hk, sep_byt, hW]
 refine ⟨?_, ?_⟩
 ·unfold joiN; rw [e]; omega
 ·rw [qKe, texI_byt hd ha hb hn, if_pos hc]
  have : joiZ q k (qQq 1 (qQq (qQq 32 0) 0)) = bcode (texL op d a b n) := by unfold joiZ; rw [e]; rfl
  rw [this]
  exact qXy (by unfold qQt; omega)
theorem txt_0 {op d a b n : Int} (hd : i64B d) (ha : i64B a) (hb : i64B b) (hn : i64B n) (hc : cckI op d a b n = 0) (h : 1 ≤ op ∧ op ≤ 23) : joiN (qQq (onmZ op) (qQq (catZ (qQq 1 (qQq (qQq 114 0) 0)) (itoZ d)) (qQq (catZ (qQq 1 (qQq (qQq 114 0) 0)) (itoZ a)) (qQq (catZ (qQq 1 (qQq (qQq 114 0) 0)) (itoZ b)) 0)))) 4 (qQq 1 (qQq (qQq 32 0) 0)) ≤ 1000000 ∧ qQj (joiZ (qQq (onmZ op) (qQq (catZ (qQq 1 (qQq (qQq 114 0) 0)) (itoZ d)) (qQq (catZ (qQq 1 (qQq (qQq 114 0) 0)) (itoZ a)) (qQq (catZ (qQq 1 (qQq (qQq 114 0) 0)) (itoZ b)) 0)))) 4 (qQq 1 (qQq (qQq 32 0) 0))) = qQj (texI op d a b n) := by
 obtain ⟨h0, h1, h2, h3⟩ := shp_0 h
 refine txt_of hd ha hb hn hc (Tx.cons (qXs op) (Tx.cons (qKf hd.1 hd.2) (Tx.cons (qKf ha.1 ha.2) (Tx.cons (qKf hb.1 hb.2) (Tx.nil 0))))) rfl ?_
 rw [join_sp]
 unfold texL fieL
 rw [h0, h1, h2, h3]
 simp
theorem txt_1 {op d a b n : Int} (hd : i64B d) (ha : i64B a) (hb : i64B b) (hn : i64B n) (hc : cckI op d a b n = 0) (h : 24 ≤ op ∧ op ≤ 30) : joiN (qQq (onmZ op) (qQq (catZ (qQq 1 (qQq (qQq 114 0) 0)) (itoZ d)) (qQq (catZ (qQq 1 (qQq (qQq 114 0) 0)) (itoZ a)) 0))) 3 (qQq 1 (qQq (qQq 32 0) 0)) ≤ 1000000 ∧ qQj (joiZ (qQq (onmZ op) (qQq (catZ (qQq 1 (qQq (qQq 114 0) 0)) (itoZ d)) (qQq (catZ (qQq 1 (qQq (qQq 114 0) 0)) (itoZ a)) 0))) 3 (qQq 1 (qQq (qQq 32 0) 0))) = qQj (texI op d a b n) := by
 obtain ⟨h0, h1, h2, h3⟩ := shp_1 h
 refine txt_of hd ha hb hn hc (Tx.cons (qXs op) (Tx.cons (qKf hd.1 hd.2) (Tx.cons (qKf ha.1 ha.2) (Tx.nil 0)))) rfl ?_
 rw [join_sp]
 unfold texL fieL
 rw [h0, h1, h2, h3]
 simp
theorem txt_2 {op d a b n : Int} (hd : i64B d) (ha : i64B a) (hb : i64B b) (hn : i64B n) (hc : cckI op d a b n = 0) (h : op = 31) : joiN (qQq (onmZ op) (qQq (catZ (qQq 1 (qQq (qQq 114 0) 0)) (itoZ d)) (qQq (catZ (qQq 1 (qQq (qQq 114 0) 0)) (itoZ a)) (qQq (itoZ n) 0)))) 4 (qQq 1 (qQq (qQq 32 0) 0)) ≤ 1000000 ∧ qQj (joiZ (qQq (onmZ op) (qQq (catZ (qQq 1 (qQq (qQq 114 0) 0)) (itoZ d)) (qQq (catZ (qQq 1 (qQq (qQq 114 0) 0)) (itoZ a)) (qQq (itoZ n) 0)))) 4 (qQq 1 (qQq (qQq 32 0) 0))) = qQj (texI op d a b n) := by
 obtain ⟨h0, h1, h2, h3⟩ := shp_2 h
 refine txt_of hd ha hb hn hc (Tx.cons (qXs op) (Tx.cons (qKf hd.1 hd.2) (Tx.cons (qKf ha.1 ha.2) (Tx.cons (qKh hn.1 hn.2) (Tx.nil 0))))) rfl ?_
 rw [join_sp]
 unfold texL fieL
 rw [h0, h1, h2, h3]
 simp
theorem txt_3 {op d a b n : Int} (hd : i64B d) (ha : i64B a) (hb : i64B b) (hn : i64B n) (hc : cckI op d a b n = 0) (h : op = 32 ∨ (34 ≤ op ∧ op ≤ 38)) : joiN (qQq (onmZ op) (qQq (catZ (qQq 1 (qQq (qQq 114 0) 0)) (itoZ d)) (qQq (catZ (qQq 1 (qQq (qQq 114 0) 0)) (itoZ a)) (qQq (itoZ n) 0)))) 4 (qQq 1 (qQq (qQq 32 0) 0)) ≤ 1000000 ∧ qQj (joiZ (qQq (onmZ op) (qQq (catZ (qQq 1 (qQq (qQq 114 0) 0)) (itoZ d)) (qQq (catZ (qQq 1 (qQq (qQq 114 0) 0)) (itoZ a)) (qQq (itoZ n) 0)))) 4 (qQq 1 (qQq (qQq 32 0) 0))) = qQj (texI op d a b n) := by
 obtain ⟨h0, h1, h2, h3⟩ := shp_3 h
 refine txt_of hd ha hb hn hc (Tx.cons (qXs op) (Tx.cons (qKf hd.1 hd.2) (Tx.cons (qKf ha.1 ha.2) (Tx.cons (qKh hn.1 hn.2) (Tx.nil 0))))) rfl ?_
 rw [join_sp]
 unfold texL fieL
 rw [h0, h1, h2, h3]
 simp
theorem txt_4 {op d a b n : Int} (hd : i64B d) (ha : i64B a) (hb : i64B b) (hn : i64B n) (hc : cckI op d a b n = 0) (h : op = 33 ∨ op = 40) : joiN (qQq (onmZ op) (qQq (catZ (qQq 1 (qQq (qQq 114 0) 0)) (itoZ d)) (qQq (itoZ n) 0))) 3 (qQq 1 (qQq (qQq 32 0) 0)) ≤ 1000000 ∧ qQj (joiZ (qQq (onmZ op) (qQq (catZ (qQq 1 (qQq (qQq 114 0) 0)) (itoZ d)) (qQq (itoZ n) 0))) 3 (qQq 1 (qQq (qQq 32 0) 0))) = qQj (texI op d a b n) := by
 obtain ⟨h0, h1, h2, h3⟩ := shp_4 h
 refine txt_of hd ha hb hn hc (Tx.cons (qXs op) (Tx.cons (qKf hd.1 hd.2) (Tx.cons (qKh hn.1 hn.2) (Tx.nil 0)))) rfl ?_
 rw [join_sp]
 unfold texL fieL
 rw [h0, h1, h2, h3]
 simp
theorem txt_5 {op d a b n : Int} (hd : i64B d) (ha : i64B a) (hb : i64B b) (hn : i64B n) (hc : cckI op d a b n = 0) (h : op = 39) : joiN (qQq (onmZ op) (qQq (itoZ n) 0)) 2 (qQq 1 (qQq (qQq 32 0) 0)) ≤ 1000000 ∧ qQj (joiZ (qQq (onmZ op) (qQq (itoZ n) 0)) 2 (qQq 1 (qQq (qQq 32 0) 0))) = qQj (texI op d a b n) := by
 obtain ⟨h0, h1, h2, h3⟩ := shp_5 h
 refine txt_of hd ha hb hn hc (Tx.cons (qXs op) (Tx.cons (qKh hn.1 hn.2) (Tx.nil 0))) rfl ?_
 rw [join_sp]
 unfold texL fieL
 rw [h0, h1, h2, h3]
 simp
theorem txt_6 {op d a b n : Int} (hd : i64B d) (ha : i64B a) (hb : i64B b) (hn : i64B n) (hc : cckI op d a b n = 0) (h : op = 41) : joiN (qQq (onmZ op) (qQq (catZ (qQq 1 (qQq (qQq 114 0) 0)) (itoZ a)) 0)) 2 (qQq 1 (qQq (qQq 32 0) 0)) ≤ 1000000 ∧ qQj (joiZ (qQq (onmZ op) (qQq (catZ (qQq 1 (qQq (qQq 114 0) 0)) (itoZ a)) 0)) 2 (qQq 1 (qQq (qQq 32 0) 0))) = qQj (texI op d a b n) := by
 obtain ⟨h0, h1, h2, h3⟩ := shp_6 h
 refine txt_of hd ha hb hn hc (Tx.cons (qXs op) (Tx.cons (qKf ha.1 ha.2) (Tx.nil 0))) rfl ?_
 rw [join_sp]
 unfold texL fieL
 rw [h0, h1, h2, h3]
 simp
theorem txt_7 {op d a b n : Int} (hd : i64B d) (ha : i64B a) (hb : i64B b) (hn : i64B n) (hc : cckI op d a b n = 0) (h : op = 42 ∨ op = 43) : joiN (qQq (onmZ op) 0) 1 (qQq 1 (qQq (qQq 32 0) 0)) ≤ 1000000 ∧ qQj (joiZ (qQq (onmZ op) 0) 1 (qQq 1 (qQq (qQq 32 0) 0))) = qQj (texI op d a b n) := by
 obtain ⟨h0, h1, h2, h3⟩ := shp_7 h
 refine txt_of hd ha hb hn hc (Tx.cons (qXs op) (Tx.nil 0)) rfl ?_
 rw [join_sp]
 unfold texL fieL
 rw [h0, h1, h2, h3]
 simp
end Go.Eng
end
