/-
  Parts of the engine, a program's symbolic run, proved sound; and of plain laws.
-/
import Derived.Test.YtppiabilakeadaaGreatDoorGp3
set_option linter.unusedVariables false
set_option linter.unusedSimpArgs false
/-!  -/
noncomputable section
namespace Go.Eng
set_option maxRecDepth 10000
theorem wgo_app : ∀ (l w r : List UInt8), wgo w (l ++ 32 :: r) = wgo w l ++ wgo [] r
 | [], w, r => by
  by_cases h : w = [] <;> simp [wgo, h]
 | b :: l, w, r => by
  simp only [List.cons_append, wgo]
  split
  ·split
   ·exact wgo_app l [] r
   ·rw [wgo_app l [] r, List.cons_append]
  ·exact wgo_app l _ r
theorem wgo_wd : ∀ (v w : List UInt8), (∀ x ∈ v, x ≠ 32) → w ++ v ≠ [] → wgo w v = [w ++ v]
 | [], w, _, h => by
  have : w ≠ [] := by simpa using h
  simp [wgo, this]
 | b :: v, w, hv, h => by
  simp only [wgo]
  rw [if_neg (hv b List.mem_cons_self), wgo_wd v (w ++ [b]) (fun x hx => hv x (List.mem_cons_of_mem _ hx)) (by simp)]
  simp
theorem itoa_no32 (n : Int) : (∀ x ∈ Lib.itoa n, x ≠ 32) ∧ Lib.itoa n ≠ [] := by
 have hd : ∀ u : Nat, ∀ x ∈ Lib.decDigits u, x ≠ 32 := fun u x hx h => by
  have := qXr (qJk u) x hx
  subst h
  simp at this
 rcases Int.lt_or_le n 0 with h | h
 ·rw [itoa_neg h]
  refine ⟨fun x hx => ?_, by simp⟩
  rcases List.mem_cons.1 hx with rfl | hx
  ·decide
  ·have h2 : Lib.itoa (0 - n) = Lib.decDigits (0 - n).toNat := by
    unfold Lib.itoa
    rw [if_neg (by omega)]
   rw [h2] at hx
   exact hd _ x hx
 ·have h2 : Lib.itoa n = Lib.decDigits n.toNat := by
   unfold Lib.itoa
   rw [if_neg (by omega)]
  rw [h2]
  exact ⟨hd _, decDigits_ne _⟩
def fwL (t v : Int) : List (List UInt8) := if t = 0 then [] else [(if t = 1 then [114] else []) ++ Lib.itoa v]
theorem wgo_fie (l : List UInt8) (t v : Int) : wgo [] (l ++ fieL t v) = wgo [] l ++ fwL t v := by
 unfold fieL fwL
 split
 ·simp
 ·rw [wgo_app, wgo_wd ((if t = 1 then [114] else []) ++ Lib.itoa v) [] ?_ ?_]
  ·rfl
  ·intro x hx
   rcases List.mem_append.1 hx with hx | hx
   ·split at hx
    ·simp at hx; subst hx; decide
    ·simp at hx
   ·exact (itoa_no32 v).1 x hx
  ·have := (itoa_no32 v).2
   simp [this]
theorem onm_all : ∀ i : Nat, i < 43 → (∀ x ∈ onmL ((i : Int) + 1), x ≠ 32) ∧ onmL ((i : Int) + 1) ≠ [] := by decide
theorem onm_ok {op : Int} (h : 1 ≤ op ∧ op ≤ 43) : (∀ x ∈ onmL op, x ≠ 32) ∧ onmL op ≠ [] := by
 have := onm_all (op - 1).toNat (by omega)
 rwa [show (((op - 1).toNat : Nat) : Int) + 1 = op by omega] at this
theorem wgo_tex {op d a b n : Int} (h : 1 ≤ op ∧ op ≤ 43) : wgo [] (texL op d a b n) = onmL op :: (fwL (shpZ op 0) d ++ (fwL (shpZ op 1) a ++ (fwL (shpZ op 2) b ++ fwL (shpZ op 3) n))) := by
 unfold texL
 rw [← List.append_assoc, ← List.append_assoc, ← List.append_assoc, wgo_fie, wgo_fie, wgo_fie, wgo_fie, wgo_wd _ [] (onm_ok h).1 (by simpa using (onm_ok h).2)]
 simp
def opG : List (List Int) → Int → List UInt8 → Int
 | [], _, _ => 0
 | n :: l, k, b => if (n.map fun x => UInt8.ofNat x.toNat) = b then k else opG l (k + 1) b
theorem opF_G {s : Int} : ∀ (l : List (List Int)) (k : Int), (∀ n ∈ l, (∀ x ∈ n, 0 ≤ x ∧ x ≤ 255) ∧ n.length ≤ 1000) → opF l k s = opG l k (bytL s)
 | [], _, _ => rfl
 | n :: l, k, h => by
  obtain ⟨h1, h2⟩ := h n List.mem_cons_self
  simp only [opF, opG, qYv, bytL_cdS h1 h2, opF_G l (k + 1) fun m hm => h m (List.mem_cons_of_mem _ hm)]
theorem opfZ_G (s : Int) : opfZ s = opG qZa 1 (bytL s) := opF_G _ _ opNames_ok
theorem opG_all : ∀ i : Nat, i < 43 → opG qZa 1 (onmL ((i : Int) + 1)) = (i : Int) + 1 := by decide
theorem opfZ_onm {op : Int} (h : 1 ≤ op ∧ op ≤ 43) : opfZ (bcode (onmL op)) = op := by
 rw [opfZ_G, qXg (by have := onmL_len op; unfold qQf; omega)]
 have := opG_all (op - 1).toNat (by omega)
 rwa [show (((op - 1).toNat : Nat) : Int) + 1 = op by omega] at this
theorem num_itoa {v : Int} (h : -999999999 ≤ v ∧ v ≤ 999999999) : numO (Lib.itoa v) = some v := num_some ⟨h.1, h.2, rfl⟩
theorem rdf_fw {t v : Int} {ts : List Int} {ws : List (List UInt8)} (ht : t = 0 ∨ t = 1 ∨ t = 2 ∨ t = 3) (h : fieE t v = 0) : rdfL (t :: ts) (fwL t v ++ ws) = (rdfL ts ws).map (v :: ·) := by
 unfold fieE at h
 rw [rdfL.eq_def]
 unfold fwL
 rcases ht with rfl | rfl | rfl | rfl
 ·simp only [if_true, List.nil_append] at h ⊢
  have : v = 0 := by split at h <;> omega
  rw [this]
 ·have hv : -999999999 ≤ v ∧ v ≤ 999999999 := by simp at h; omega
  simp [num_itoa hv]
 ·have hv : -999999999 ≤ v ∧ v ≤ 999999999 := by simp at h; omega
  simp [num_itoa hv]
 ·have hv : -999999999 ≤ v ∧ v ≤ 999999999 := by simp at h; omega
  simp [num_itoa hv]
theorem shp_cases (op k : Int) : shpZ op k = 0 ∨ shpZ op k = 1 ∨ shpZ op k = 2 ∨ shpZ op k = 3 := by
 unfold shpZ
 split
 ·exact .inl rfl
 ·repeat' split
  all_goals simp
theorem cck_parts {op d a b n : Int} (h : cckI op d a b n = 0) : (1 ≤ op ∧ op ≤ 43) ∧ fieE (shpZ op 0) d = 0 ∧ fieE (shpZ op 1) a = 0 ∧ fieE (shpZ op 2) b = 0 ∧ fieE (shpZ op 3) n = 0 := by
 unfold cckI at h
 split at h
 ·omega
 ·repeat' split at h
  all_goals first | omega | (refine ⟨by omega, ?_, ?_, ?_, ?_⟩ <;> omega)
theorem par_back {s op d a b n : Int} (hc : cckI op d a b n = 0) (hd : i64B d) (ha : i64B a) (hb : i64B b) (hn : i64B n) (hw : wrdL s = wgo [] (texL op d a b n)) :
  parE s = 0 ∧ parZ s 0 = op ∧ parZ s 1 = d ∧ parZ s 2 = a ∧ parZ s 3 = b ∧ parZ s 4 = n := by
 obtain ⟨ho, e0, e1, e2, e3⟩ := cck_parts hc
 rw [wgo_tex ho] at hw
 have hp : parO s = some (op, [d, a, b, n]) := by
  unfold parO
  rw [hw]
  simp only [opfZ_onm ho]
  rw [if_neg (by omega), rdf_fw (shp_cases op 0) e0, rdf_fw (shp_cases op 1) e1, rdf_fw (shp_cases op 2) e2]
  have := rdf_fw (ts := []) (ws := []) (shp_cases op 3) e3
  rw [List.append_nil] at this
  rw [this, rdf_end]
  rfl
 have := qKh hp ⟨by omega, by omega⟩ hd ha hb hn
 rw [hc] at this
 simpa using this
theorem lit_byt {l : List Int} {n : Int} (hn : n = l.length) (h : ∀ x ∈ l, 0 ≤ x ∧ x ≤ 255) (hl : l.length ≤ 1000) : bytL (qQq n (qQq (chS l) 0)) = l.map fun x => UInt8.ofNat x.toNat := by
 subst hn; exact bytL_cdS h hl
def exA : Int := qQq 16 (qQq (chS [32, 97, 100, 100, 105, 32, 114, 49, 32, 32, 114, 50, 32, 45, 53, 32]) 0)
def exB : Int := qQq 13 (qQq (chS [97, 100, 100, 105, 32, 114, 48, 49, 32, 114, 50, 32, 53]) 0)
def exC : Int := qQq 3 (qQq (chS [45, 49, 50]) 0)
def exD : Int := qQq 11 (qQq (chS [108, 119, 32, 114, 49, 32, 114, 48, 32, 52, 48]) 0)
theorem itoas : Lib.itoa 0 = [48] ∧ Lib.itoa 1 = [49] ∧ Lib.itoa 2 = [50] ∧ Lib.itoa (-5) = [45, 53] ∧ Lib.itoa 40 = [52, 48] ∧ Lib.itoa (-12) = [45, 49, 50] := by
 have h0 : Lib.itoa 0 = [48] := qKz (by omega) (by omega)
 have h1 : Lib.itoa 1 = [49] := qKz (by omega) (by omega)
 have h2 : Lib.itoa 2 = [50] := qKz (by omega) (by omega)
 have h4 : Lib.itoa 4 = [52] := qKz (by omega) (by omega)
 have h5 : Lib.itoa 5 = [53] := qKz (by omega) (by omega)
 refine ⟨h0, h1, h2, ?_, ?_, ?_⟩
 ·rw [itoa_neg (by omega)]; exact congrArg _ h5
 ·rw [itoa_big (by omega)]; show Lib.itoa 4 ++ Lib.itoa 0 = _; rw [h4, h0]; rfl
 ·rw [itoa_neg (by omega)]; show 45 :: Lib.itoa 12 = _; rw [itoa_big (by omega)]; show 45 :: (Lib.itoa 1 ++ Lib.itoa 2) = _; rw [h1, h2]; rfl
theorem exA_byt : bytL exA = [32, 97, 100, 100, 105, 32, 114, 49, 32, 32, 114, 50, 32, 45, 53, 32] := lit_byt (by decide) (by decide) (by decide)
theorem exB_byt : bytL exB = [97, 100, 100, 105, 32, 114, 48, 49, 32, 114, 50, 32, 53] := lit_byt (by decide) (by decide) (by decide)
theorem exC_byt : bytL exC = [45, 49, 50] := lit_byt (by decide) (by decide) (by decide)
theorem exD_byt : bytL exD = [108, 119, 32, 114, 49, 32, 114, 48, 32, 52, 48] := lit_byt (by decide) (by decide) (by decide)
theorem exA_par : parE exA = 0 ∧ parZ exA 0 = 31 ∧ parZ exA 1 = 1 ∧ parZ exA 2 = 2 ∧ parZ exA 3 = 0 ∧ parZ exA 4 = -5 := by
 refine par_back (by decide) ⟨by decide, by decide⟩ ⟨by decide, by decide⟩ ⟨by decide, by decide⟩ ⟨by decide, by decide⟩ ?_
 obtain ⟨i0, i1, i2, i5, _⟩ := itoas
 rw [wgo_tex ⟨by decide, by decide⟩]
 unfold wrdL
 rw [exA_byt]
 obtain ⟨q0, q1, q2, q3⟩ := shp_2 rfl
 rw [q0, q1, q2, q3]
 unfold fwL
 simp only [Int.reduceEq, if_true, if_false, i1, i2, i5]
 decide
theorem num01 : numO [48, 49] = none := by
 have h : Lib.atoi [48, 49] = some 1 := by decide
 rw [num_of (by decide) h, if_neg (by rw [itoas.2.1]; decide)]
theorem exB_par : parE exB = 3 := by
 refine (par_none ?_).1
 have hw : wrdL exB = [onmL 31, [114, 48, 49], [114, 50], [53]] := by
  unfold wrdL
  rw [exB_byt]
  decide
 unfold parO
 rw [hw]
 simp only [opfZ_onm (op := 31) ⟨by decide, by decide⟩]
 obtain ⟨q0, q1, q2, q3⟩ := shp_2 rfl
 rw [q0, q1, q2, q3, rdfL.eq_def]
 simp [num01]
theorem exC_num : numZ exC = -12 ∧ numK exC = 1 := by
 have : numO (bytL exC) = some (-12) := by
  rw [exC_byt]
  exact num_some ⟨by decide, by decide, itoas.2.2.2.2.2⟩
 unfold numZ numK
 rw [this]
 exact ⟨rfl, rfl⟩
theorem exD_tex : seqZ (texI 34 1 0 0 40) exD ≠ 0 := by
 rw [qYv, texI_byt ⟨by decide, by decide⟩ ⟨by decide, by decide⟩ ⟨by decide, by decide⟩ ⟨by decide, by decide⟩, if_pos (by decide), exD_byt]
 obtain ⟨q0, q1, q2, q3⟩ := shp_3 (op := 34) (by omega)
 obtain ⟨i0, i1, i2, i5, i40, _⟩ := itoas
 unfold texL fieL
 rw [q0, q1, q2, q3]
 simp only [Int.reduceEq, if_true, if_false, i0, i1, i40]
 decide
theorem ex_len : qQz exA = 16 ∧ qQz exB = 13 := ⟨qKs [] 16 (by omega) (by unfold qQf; omega) _, qKs [] 13 (by omega) (by unfold qQf; omega) _⟩
end Go.Eng
end
