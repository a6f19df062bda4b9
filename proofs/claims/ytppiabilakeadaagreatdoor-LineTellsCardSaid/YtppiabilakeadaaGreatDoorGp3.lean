/-
  Parts of the engine, a program's symbolic run, proved sound; and of plain laws.
-/
import Derived.Test.YtppiabilakeadaaGreatDoorGp2
set_option linter.unusedVariables false
set_option linter.unusedSimpArgs false
/-!  -/
noncomputable section
namespace Go.Eng
def rokP (x : Int) : Prop := 1 ≤ qQz x ∧ ¬ seqZ (qQq 1 (qQq (qQv (rdZ x 1) 0) 0)) (qQq 1 (qQq (qQq 114 0) 0)) = 0 ∧ ¬ numK (qQq (qQz x - 1) (qQq (qQv (rdZ x 1) 1) 0)) = 0
noncomputable instance (x : Int) : Decidable (rokP x) := by unfold rokP; infer_instance
theorem numK_some {x : Int} : ¬ numK x = 0 ↔ numO (bytL x) = some (numZ x) := by
 unfold numK numZ
 cases numO (bytL x) <;> simp
theorem numK_none {x : Int} : numK x = 0 ↔ numO (bytL x) = none := by
 unfold numK
 cases numO (bytL x) <;> simp
theorem tl_byt {x : Int} (h : 1 ≤ qQz x) : bytL (qQq (qQz x - 1) (qQq (qQv (rdZ x 1) 1) 0)) = (bytL x).drop 1 := by
 have hl := qZu x
 rw [bytL_cut (s := x) (l := 1) (h := qQz x) (by omega) h (Int.le_refl _)]
 exact List.take_of_length_le (by rw [List.length_drop]; omega)
theorem head_r {s : Int} (h : 1 ≤ qQz s) : ¬ seqZ (qQq 1 (qQq (qQv (rdZ s 1) 0) 0)) (qQq 1 (qQq (qQq 114 0) 0)) = 0 ↔ UInt8.ofNat (qQy s 0).toNat = 114 := by
 show seqZ _ _ ≠ 0 ↔ _
 rw [qYv, head_byte h, bytL_1 (by omega) (by omega)]
 simp
theorem qZy {x : Int} {w : List UInt8} {ws : List (List UInt8)} {ts : List Int} (hx : bytL x = w) : rdfL (1 :: ts) (w :: ws) = if rokP x then (rdfL ts ws).map (numZ (qQq (qQz x - 1) (qQq (qQv (rdZ x 1) 1) 0)) :: ·) else none := by
 subst hx
 have hl := qZu x
 rw [rdfL.eq_def]
 simp only [Int.reduceEq, if_true, if_false]
 by_cases h1 : 1 ≤ qQz x
 ·have hd := qVz (s := x) (i := 0) (by omega) (by omega)
  have hd : bytL x = UInt8.ofNat (qQy x 0).toNat :: (bytL x).drop 1 := hd
  have ht := tl_byt h1
  have hr := head_r h1
  rw [hd]
  simp only
  by_cases h2 : UInt8.ofNat (qQy x 0).toNat = 114
  ·rw [if_pos h2, ← ht]
   by_cases h3 : numK (qQq (qQz x - 1) (qQq (qQv (rdZ x 1) 1) 0)) = 0
   ·rw [numK_none.1 h3, if_neg fun h => h.2.2 h3]
   ·rw [numK_some.1 h3, if_pos ⟨h1, hr.2 h2, h3⟩]
  ·rw [if_neg h2, if_neg fun h => h2 (hr.1 h.2.1)]
 ·rw [body_nil (by omega), if_neg fun h => h1 h.1]
theorem rdf_num {x t : Int} {w : List UInt8} {ws : List (List UInt8)} {ts : List Int} (hx : bytL x = w) (ht : t = 2 ∨ t = 3) : rdfL (t :: ts) (w :: ws) = if ¬ numK x = 0 then (rdfL ts ws).map (numZ x :: ·) else none := by
 subst hx
 rw [rdfL.eq_def]
 simp only
 rw [if_neg (show ¬ t = 0 by omega), if_neg (show ¬ t = 1 by omega)]
 by_cases h3 : numK x = 0
 ·rw [numK_none.1 h3, if_neg fun h => h h3]
 ·rw [numK_some.1 h3, if_pos h3]
theorem qXc {ws : List (List UInt8)} {ts : List Int} : rdfL (0 :: ts) ws = (rdfL ts ws).map (0 :: ·) := by
 rw [rdfL.eq_def]
 simp
theorem qQc {t : Int} {ts : List Int} (h : t ≠ 0) : rdfL (t :: ts) [] = none := by
 rw [rdfL.eq_def]
 simp [h]
theorem opF_congr {a b : Int} (h : qQj a = qQj b) : ∀ (l : List (List Int)) (k : Int), opF l k a = opF l k b
 | [], k => rfl
 | n :: l, k => by
  have : seqZ (cdS n) a = seqZ (cdS n) b := by unfold seqZ; rw [h]
  simp only [opF, this, opF_congr h l (k + 1)]
theorem qXp {x : Int} {w : List UInt8} (hx : bytL x = w) (hw : (w.length : Int) ≤ qQf) : opfZ (bcode w) = opfZ x := by
 refine opF_congr ?_ _ _
 rw [qZd, qXg hw, hx]
theorem wrd_len {s : Int} {w : List UInt8} (h : w ∈ wrdL s) : (w.length : Int) ≤ qQf := by
 have h1 := wgo_size _ _ _ h
 have h2 := qZu s
 have h3 := (qZo s).2
 simp only [List.length_nil] at h1
 omega
theorem par_none {s : Int} (h : parO s = none) : parE s = 3 ∧ ∀ k, parZ s k = 0 := by
 have : parE s = 3 := by unfold parE; rw [h]
 refine ⟨this, fun k => ?_⟩
 unfold parZ
 rw [this]; rfl
theorem qKh {s op d a b n : Int} (h : parO s = some (op, [d, a, b, n])) (ho : i64B op) (hd : i64B d) (ha : i64B a) (hb : i64B b) (hn : i64B n) : parE s = cckI op d a b n ∧ parZ s 0 = (if cckI op d a b n = 0 then op else 0) ∧ parZ s 1 = (if cckI op d a b n = 0 then d else 0) ∧
  parZ s 2 = (if cckI op d a b n = 0 then a else 0) ∧ parZ s 3 = (if cckI op d a b n = 0 then b else 0) ∧ parZ s 4 = (if cckI op d a b n = 0 then n else 0) := by
 have e : parE s = cckI op d a b n := by unfold parE; rw [h]; rfl
 refine ⟨e, ?_, ?_, ?_, ?_, ?_⟩ <;> unfold parZ <;> rw [e, h] <;> split <;> (try rfl) <;> simp only [Int.reduceEq, if_true, if_false]
 ·exact w64 ho.1 ho.2
 ·exact w64 hd.1 hd.2
 ·exact w64 ha.1 ha.2
 ·exact w64 hb.1 hb.2
 ·exact w64 hn.1 hn.2
theorem par_bad {s : Int} (h : wrdN s = 0 ∨ opfZ (rdZ (wrdC s) 0) = 0) : parO s = none := by
 have hT := qKa s
 unfold parO
 have hN : wrdN s = ((wrdL s).length : Int) := rfl
 have hw := fun w (hw : w ∈ wrdL s) => wrd_len hw
 cases hL : wrdL s with
 | nil => rfl
 | cons w ws =>
  rw [hL] at hT hN hw
  have h0 : bytL (rdZ (wrdC s) 0) = w := hT 0 (by simp)
  simp only
  rw [qXp h0 (hw w List.mem_cons_self)]
  rcases h with h | h
  ·rw [List.length_cons] at hN; omega
  ·rw [if_pos h]
theorem rdf_end : rdfL [] [] = some [] := by rw [rdfL.eq_def]
theorem qYa {w : List UInt8} {ws : List (List UInt8)} : rdfL [] (w :: ws) = none := by rw [rdfL.eq_def]
theorem par_0 {s op : Int} (ho : opfZ (rdZ (wrdC s) 0) = op) (h : 1 ≤ op ∧ op ≤ 23) (hn : 1 ≤ wrdN s) : parO s = if wrdN s = 4 ∧ rokP (rdZ (wrdC s) 1) ∧ rokP (rdZ (wrdC s) 2) ∧ rokP (rdZ (wrdC s) 3) then some (op, [numZ (qQq (qQz (rdZ (wrdC s) 1) - 1) (qQq (qQv (rdZ (rdZ (wrdC s) 1) 1) 1) 0)), numZ (qQq (qQz (rdZ (wrdC s) 2) - 1) (qQq (qQv (rdZ (rdZ (wrdC s) 2) 1) 1) 0)), numZ (qQq (qQz (rdZ (wrdC s) 3) - 1) (qQq (qQv (rdZ (rdZ (wrdC s) 3) 1) 1) 0)), 0]) else none := by
 have hT := qKa s
 have hN : wrdN s = ((wrdL s).length : Int) := rfl
 have hw := fun w (hw : w ∈ wrdL s) => wrd_len hw
 obtain ⟨q0, q1, q2, q3⟩ := shp_0 h
 unfold parO
 rcases hL : wrdL s with _ | ⟨w0, ws⟩
 ·rw [hL] at hN; simp at hN; omega
 rw [hL] at hT hN hw
 have h0 : bytL (rdZ (wrdC s) 0) = w0 := hT 0 (by simp)
 simp only
 rw [qXp h0 (hw w0 List.mem_cons_self), ho, if_neg (by omega), q0, q1, q2, q3]
 rcases ws with _ | ⟨w1, ws1⟩
 ·rw [if_neg fun g => by simp at hN; omega]
  simp only [qXc, qQc (show ¬ (1 : Int) = 0 by decide), qQc (show ¬ (2 : Int) = 0 by decide), qQc (show ¬ (3 : Int) = 0 by decide), Option.map_none]
  repeat' split
  all_goals rfl
 have h1 : bytL (rdZ (wrdC s) 1) = w1 := hT 1 (by simp)
 rcases ws1 with _ | ⟨w2, ws2⟩
 ·rw [if_neg fun g => by simp at hN; omega]
  simp only [qXc, qQc (show ¬ (1 : Int) = 0 by decide), qQc (show ¬ (2 : Int) = 0 by decide), qQc (show ¬ (3 : Int) = 0 by decide), qZy h1, Option.map_none]
  repeat' split
  all_goals rfl
 have h2 : bytL (rdZ (wrdC s) 2) = w2 := hT 2 (by simp)
 rcases ws2 with _ | ⟨w3, ws3⟩
 ·rw [if_neg fun g => by simp at hN; omega]
  simp only [qXc, qQc (show ¬ (1 : Int) = 0 by decide), qQc (show ¬ (2 : Int) = 0 by decide), qQc (show ¬ (3 : Int) = 0 by decide), qZy h1, qZy h2, Option.map_none]
  repeat' split
  all_goals rfl
 have h3 : bytL (rdZ (wrdC s) 3) = w3 := hT 3 (by simp)
 rcases ws3 with _ | ⟨wz, wsz⟩
 ·have hN : wrdN s = 4 := by simpa using hN
  simp only [qXc, rdf_end, hN, true_and, if_true, qZy h1, qZy h2, qZy h3, Option.map_some]
  repeat' split
  all_goals simp_all
 ·rw [if_neg fun g => by simp at hN; omega]
  simp only [qXc, qYa, qZy h1, qZy h2, qZy h3, Option.map_none]
  repeat' split
  all_goals rfl
theorem par_1 {s op : Int} (ho : opfZ (rdZ (wrdC s) 0) = op) (h : 24 ≤ op ∧ op ≤ 30) (hn : 1 ≤ wrdN s) : parO s = if wrdN s = 3 ∧ rokP (rdZ (wrdC s) 1) ∧ rokP (rdZ (wrdC s) 2) then some (op, [numZ (qQq (qQz (rdZ (wrdC s) 1) - 1) (qQq (qQv (rdZ (rdZ (wrdC s) 1) 1) 1) 0)), numZ (qQq (qQz (rdZ (wrdC s) 2) - 1) (qQq (qQv (rdZ (rdZ (wrdC s) 2) 1) 1) 0)), 0, 0]) else none := by
 have hT := qKa s
 have hN : wrdN s = ((wrdL s).length : Int) := rfl
 have hw := fun w (hw : w ∈ wrdL s) => wrd_len hw
 obtain ⟨q0, q1, q2, q3⟩ := shp_1 h
 unfold parO
 rcases hL : wrdL s with _ | ⟨w0, ws⟩
 ·rw [hL] at hN; simp at hN; omega
 rw [hL] at hT hN hw
 have h0 : bytL (rdZ (wrdC s) 0) = w0 := hT 0 (by simp)
 simp only
 rw [qXp h0 (hw w0 List.mem_cons_self), ho, if_neg (by omega), q0, q1, q2, q3]
 rcases ws with _ | ⟨w1, ws1⟩
 ·rw [if_neg fun g => by simp at hN; omega]
  simp only [qXc, qQc (show ¬ (1 : Int) = 0 by decide), qQc (show ¬ (2 : Int) = 0 by decide), qQc (show ¬ (3 : Int) = 0 by decide), Option.map_none]
  repeat' split
  all_goals rfl
 have h1 : bytL (rdZ (wrdC s) 1) = w1 := hT 1 (by simp)
 rcases ws1 with _ | ⟨w2, ws2⟩
 ·rw [if_neg fun g => by simp at hN; omega]
  simp only [qXc, qQc (show ¬ (1 : Int) = 0 by decide), qQc (show ¬ (2 : Int) = 0 by decide), qQc (show ¬ (3 : Int) = 0 by decide), qZy h1, Option.map_none]
  repeat' split
  all_goals rfl
 have h2 : bytL (rdZ (wrdC s) 2) = w2 := hT 2 (by simp)
 rcases ws2 with _ | ⟨wz, wsz⟩
 ·have hN : wrdN s = 3 := by simpa using hN
  simp only [qXc, rdf_end, hN, true_and, if_true, qZy h1, qZy h2, Option.map_some]
  repeat' split
  all_goals simp_all
 ·rw [if_neg fun g => by simp at hN; omega]
  simp only [qXc, qYa, qZy h1, qZy h2, Option.map_none]
  repeat' split
  all_goals rfl
theorem par_2 {s op : Int} (ho : opfZ (rdZ (wrdC s) 0) = op) (h : op = 31) (hn : 1 ≤ wrdN s) : parO s = if wrdN s = 4 ∧ rokP (rdZ (wrdC s) 1) ∧ rokP (rdZ (wrdC s) 2) ∧ ¬ numK (rdZ (wrdC s) 3) = 0 then some (op, [numZ (qQq (qQz (rdZ (wrdC s) 1) - 1) (qQq (qQv (rdZ (rdZ (wrdC s) 1) 1) 1) 0)), numZ (qQq (qQz (rdZ (wrdC s) 2) - 1) (qQq (qQv (rdZ (rdZ (wrdC s) 2) 1) 1) 0)), 0, numZ (rdZ (wrdC s) 3)]) else none := by
 have hT := qKa s
 have hN : wrdN s = ((wrdL s).length : Int) := rfl
 have hw := fun w (hw : w ∈ wrdL s) => wrd_len hw
 obtain ⟨q0, q1, q2, q3⟩ := shp_2 h
 unfold parO
 rcases hL : wrdL s with _ | ⟨w0, ws⟩
 ·rw [hL] at hN; simp at hN; omega
 rw [hL] at hT hN hw
 have h0 : bytL (rdZ (wrdC s) 0) = w0 := hT 0 (by simp)
 simp only
 rw [qXp h0 (hw w0 List.mem_cons_self), ho, if_neg (by omega), q0, q1, q2, q3]
 rcases ws with _ | ⟨w1, ws1⟩
 ·rw [if_neg fun g => by simp at hN; omega]
  simp only [qXc, qQc (show ¬ (1 : Int) = 0 by decide), qQc (show ¬ (2 : Int) = 0 by decide), qQc (show ¬ (3 : Int) = 0 by decide), Option.map_none]
  repeat' split
  all_goals rfl
 have h1 : bytL (rdZ (wrdC s) 1) = w1 := hT 1 (by simp)
 rcases ws1 with _ | ⟨w2, ws2⟩
 ·rw [if_neg fun g => by simp at hN; omega]
  simp only [qXc, qQc (show ¬ (1 : Int) = 0 by decide), qQc (show ¬ (2 : Int) = 0 by decide), qQc (show ¬ (3 : Int) = 0 by decide), qZy h1, Option.map_none]
  repeat' split
  all_goals rfl
 have h2 : bytL (rdZ (wrdC s) 2) = w2 := hT 2 (by simp)
 rcases ws2 with _ | ⟨w3, ws3⟩
 ·rw [if_neg fun g => by simp at hN; omega]
  simp only [qXc, qQc (show ¬ (1 : Int) = 0 by decide), qQc (show ¬ (2 : Int) = 0 by decide), qQc (show ¬ (3 : Int) = 0 by decide), qZy h1, qZy h2, Option.map_none]
  repeat' split
  all_goals rfl
 have h3 : bytL (rdZ (wrdC s) 3) = w3 := hT 3 (by simp)
 rcases ws3 with _ | ⟨wz, wsz⟩
 ·have hN : wrdN s = 4 := by simpa using hN
  simp only [qXc, rdf_end, hN, true_and, if_true, qZy h1, qZy h2, rdf_num (t := 2) h3 (by decide), Option.map_some]
  repeat' split
  all_goals simp_all
 ·rw [if_neg fun g => by simp at hN; omega]
  simp only [qXc, qYa, qZy h1, qZy h2, rdf_num (t := 2) h3 (by decide), Option.map_none]
  repeat' split
  all_goals rfl
theorem par_3 {s op : Int} (ho : opfZ (rdZ (wrdC s) 0) = op) (h : op = 32 ∨ (34 ≤ op ∧ op ≤ 38)) (hn : 1 ≤ wrdN s) : parO s = if wrdN s = 4 ∧ rokP (rdZ (wrdC s) 1) ∧ rokP (rdZ (wrdC s) 2) ∧ ¬ numK (rdZ (wrdC s) 3) = 0 then some (op, [numZ (qQq (qQz (rdZ (wrdC s) 1) - 1) (qQq (qQv (rdZ (rdZ (wrdC s) 1) 1) 1) 0)), numZ (qQq (qQz (rdZ (wrdC s) 2) - 1) (qQq (qQv (rdZ (rdZ (wrdC s) 2) 1) 1) 0)), 0, numZ (rdZ (wrdC s) 3)]) else none := by
 have hT := qKa s
 have hN : wrdN s = ((wrdL s).length : Int) := rfl
 have hw := fun w (hw : w ∈ wrdL s) => wrd_len hw
 obtain ⟨q0, q1, q2, q3⟩ := shp_3 h
 unfold parO
 rcases hL : wrdL s with _ | ⟨w0, ws⟩
 ·rw [hL] at hN; simp at hN; omega
 rw [hL] at hT hN hw
 have h0 : bytL (rdZ (wrdC s) 0) = w0 := hT 0 (by simp)
 simp only
 rw [qXp h0 (hw w0 List.mem_cons_self), ho, if_neg (by omega), q0, q1, q2, q3]
 rcases ws with _ | ⟨w1, ws1⟩
 ·rw [if_neg fun g => by simp at hN; omega]
  simp only [qXc, qQc (show ¬ (1 : Int) = 0 by decide), qQc (show ¬ (2 : Int) = 0 by decide), qQc (show ¬ (3 : Int) = 0 by decide), Option.map_none]
  repeat' split
  all_goals rfl
 have h1 : bytL (rdZ (wrdC s) 1) = w1 := hT 1 (by simp)
 rcases ws1 with _ | ⟨w2, ws2⟩
 ·rw [if_neg fun g => by simp at hN; omega]
  simp only [qXc, qQc (show ¬ (1 : Int) = 0 by decide), qQc (show ¬ (2 : Int) = 0 by decide), qQc (show ¬ (3 : Int) = 0 by decide), qZy h1, Option.map_none]
  repeat' split
  all_goals rfl
 have h2 : bytL (rdZ (wrdC s) 2) = w2 := hT 2 (by simp)
 rcases ws2 with _ | ⟨w3, ws3⟩
 ·rw [if_neg fun g => by simp at hN; omega]
  simp only [qXc, qQc (show ¬ (1 : Int) = 0 by decide), qQc (show ¬ (2 : Int) = 0 by decide), qQc (show ¬ (3 : Int) = 0 by decide), qZy h1, qZy h2, Option.map_none]
  repeat' split
  all_goals rfl
 have h3 : bytL (rdZ (wrdC s) 3) = w3 := hT 3 (by simp)
 rcases ws3 with _ | ⟨wz, wsz⟩
 ·have hN : wrdN s = 4 := by simpa using hN
  simp only [qXc, rdf_end, hN, true_and, if_true, qZy h1, qZy h2, rdf_num (t := 3) h3 (by decide), Option.map_some]
  repeat' split
  all_goals simp_all
 ·rw [if_neg fun g => by simp at hN; omega]
  simp only [qXc, qYa, qZy h1, qZy h2, rdf_num (t := 3) h3 (by decide), Option.map_none]
  repeat' split
  all_goals rfl
theorem par_4 {s op : Int} (ho : opfZ (rdZ (wrdC s) 0) = op) (h : op = 33 ∨ op = 40) (hn : 1 ≤ wrdN s) : parO s = if wrdN s = 3 ∧ rokP (rdZ (wrdC s) 1) ∧ ¬ numK (rdZ (wrdC s) 2) = 0 then some (op, [numZ (qQq (qQz (rdZ (wrdC s) 1) - 1) (qQq (qQv (rdZ (rdZ (wrdC s) 1) 1) 1) 0)), 0, 0, numZ (rdZ (wrdC s) 2)]) else none := by
 have hT := qKa s
 have hN : wrdN s = ((wrdL s).length : Int) := rfl
 have hw := fun w (hw : w ∈ wrdL s) => wrd_len hw
 obtain ⟨q0, q1, q2, q3⟩ := shp_4 h
 unfold parO
 rcases hL : wrdL s with _ | ⟨w0, ws⟩
 ·rw [hL] at hN; simp at hN; omega
 rw [hL] at hT hN hw
 have h0 : bytL (rdZ (wrdC s) 0) = w0 := hT 0 (by simp)
 simp only
 rw [qXp h0 (hw w0 List.mem_cons_self), ho, if_neg (by omega), q0, q1, q2, q3]
 rcases ws with _ | ⟨w1, ws1⟩
 ·rw [if_neg fun g => by simp at hN; omega]
  simp only [qXc, qQc (show ¬ (1 : Int) = 0 by decide), qQc (show ¬ (2 : Int) = 0 by decide), qQc (show ¬ (3 : Int) = 0 by decide), Option.map_none]
  repeat' split
  all_goals rfl
 have h1 : bytL (rdZ (wrdC s) 1) = w1 := hT 1 (by simp)
 rcases ws1 with _ | ⟨w2, ws2⟩
 ·rw [if_neg fun g => by simp at hN; omega]
  simp only [qXc, qQc (show ¬ (1 : Int) = 0 by decide), qQc (show ¬ (2 : Int) = 0 by decide), qQc (show ¬ (3 : Int) = 0 by decide), qZy h1, Option.map_none]
  repeat' split
  all_goals rfl
 have h2 : bytL (rdZ (wrdC s) 2) = w2 := hT 2 (by simp)
 rcases ws2 with _ | ⟨wz, wsz⟩
 ·have hN : wrdN s = 3 := by simpa using hN
  simp only [qXc, rdf_end, hN, true_and, if_true, qZy h1, rdf_num (t := 3) h2 (by decide), Option.map_some]
  repeat' split
  all_goals simp_all
 ·rw [if_neg fun g => by simp at hN; omega]
  simp only [qXc, qYa, qZy h1, rdf_num (t := 3) h2 (by decide), Option.map_none]
  repeat' split
  all_goals rfl
theorem par_5 {s op : Int} (ho : opfZ (rdZ (wrdC s) 0) = op) (h : op = 39) (hn : 1 ≤ wrdN s) : parO s = if wrdN s = 2 ∧ ¬ numK (rdZ (wrdC s) 1) = 0 then some (op, [0, 0, 0, numZ (rdZ (wrdC s) 1)]) else none := by
 have hT := qKa s
 have hN : wrdN s = ((wrdL s).length : Int) := rfl
 have hw := fun w (hw : w ∈ wrdL s) => wrd_len hw
 obtain ⟨q0, q1, q2, q3⟩ := shp_5 h
 unfold parO
 rcases hL : wrdL s with _ | ⟨w0, ws⟩
 ·rw [hL] at hN; simp at hN; omega
 rw [hL] at hT hN hw
 have h0 : bytL (rdZ (wrdC s) 0) = w0 := hT 0 (by simp)
 simp only
 rw [qXp h0 (hw w0 List.mem_cons_self), ho, if_neg (by omega), q0, q1, q2, q3]
 rcases ws with _ | ⟨w1, ws1⟩
 ·rw [if_neg fun g => by simp at hN; omega]
  simp only [qXc, qQc (show ¬ (1 : Int) = 0 by decide), qQc (show ¬ (2 : Int) = 0 by decide), qQc (show ¬ (3 : Int) = 0 by decide), Option.map_none]
  repeat' split
  all_goals rfl
 have h1 : bytL (rdZ (wrdC s) 1) = w1 := hT 1 (by simp)
 rcases ws1 with _ | ⟨wz, wsz⟩
 ·have hN : wrdN s = 2 := by simpa using hN
  simp only [qXc, rdf_end, hN, true_and, if_true, rdf_num (t := 3) h1 (by decide), Option.map_some]
  repeat' split
  all_goals simp_all
 ·rw [if_neg fun g => by simp at hN; omega]
  simp only [qXc, qYa, rdf_num (t := 3) h1 (by decide), Option.map_none]
  repeat' split
  all_goals rfl
theorem par_6 {s op : Int} (ho : opfZ (rdZ (wrdC s) 0) = op) (h : op = 41) (hn : 1 ≤ wrdN s) : parO s = if wrdN s = 2 ∧ rokP (rdZ (wrdC s) 1) then some (op, [0, numZ (qQq (qQz (rdZ (wrdC s) 1) - 1) (qQq (qQv (rdZ (rdZ (wrdC s) 1) 1) 1) 0)), 0, 0]) else none := by
 have hT := qKa s
 have hN : wrdN s = ((wrdL s).length : Int) := rfl
 have hw := fun w (hw : w ∈ wrdL s) => wrd_len hw
 obtain ⟨q0, q1, q2, q3⟩ := shp_6 h
 unfold parO
 rcases hL : wrdL s with _ | ⟨w0, ws⟩
 ·rw [hL] at hN; simp at hN; omega
 rw [hL] at hT hN hw
 have h0 : bytL (rdZ (wrdC s) 0) = w0 := hT 0 (by simp)
 simp only
 rw [qXp h0 (hw w0 List.mem_cons_self), ho, if_neg (by omega), q0, q1, q2, q3]
 rcases ws with _ | ⟨w1, ws1⟩
 ·rw [if_neg fun g => by simp at hN; omega]
  simp only [qXc, qQc (show ¬ (1 : Int) = 0 by decide), qQc (show ¬ (2 : Int) = 0 by decide), qQc (show ¬ (3 : Int) = 0 by decide), Option.map_none]
  repeat' split
  all_goals rfl
 have h1 : bytL (rdZ (wrdC s) 1) = w1 := hT 1 (by simp)
 rcases ws1 with _ | ⟨wz, wsz⟩
 ·have hN : wrdN s = 2 := by simpa using hN
  simp only [qXc, rdf_end, hN, true_and, if_true, qZy h1, Option.map_some]
  repeat' split
  all_goals simp_all
 ·rw [if_neg fun g => by simp at hN; omega]
  simp only [qXc, qYa, qZy h1, Option.map_none]
  repeat' split
  all_goals rfl
theorem par_7 {s op : Int} (ho : opfZ (rdZ (wrdC s) 0) = op) (h : op = 42 ∨ op = 43) (hn : 1 ≤ wrdN s) : parO s = if wrdN s = 1 then some (op, [0, 0, 0, 0]) else none := by
 have hT := qKa s
 have hN : wrdN s = ((wrdL s).length : Int) := rfl
 have hw := fun w (hw : w ∈ wrdL s) => wrd_len hw
 obtain ⟨q0, q1, q2, q3⟩ := shp_7 h
 unfold parO
 rcases hL : wrdL s with _ | ⟨w0, ws⟩
 ·rw [hL] at hN; simp at hN; omega
 rw [hL] at hT hN hw
 have h0 : bytL (rdZ (wrdC s) 0) = w0 := hT 0 (by simp)
 simp only
 rw [qXp h0 (hw w0 List.mem_cons_self), ho, if_neg (by omega), q0, q1, q2, q3]
 rcases ws with _ | ⟨wz, wsz⟩
 ·have hN : wrdN s = 1 := by simpa using hN
  simp only [qXc, rdf_end, hN, true_and, if_true, Option.map_some]
 ·rw [if_neg fun g => by simp at hN; omega]
  simp only [qXc, qYa, Option.map_none]
  repeat' split
  all_goals rfl
theorem opF_e : ∀ (l : List (List Int)) (k : Int), (∀ n ∈ l, (n ≠ [] ∧ (∀ x ∈ n, 0 ≤ x ∧ x ≤ 255)) ∧ n.length ≤ 1000) → opF l k (qQq 0 (qQq 0 0)) = 0
 | [], k, _ => rfl
 | n :: l, k, h => by
  obtain ⟨⟨h1, h2⟩, h3⟩ := h n List.mem_cons_self
  have : ¬ seqZ (cdS n) (qQq 0 (qQq 0 0)) ≠ 0 := by
   rw [byt_nil, bytL_cdS h2 h3]
   simp [h1]
  simp only [opF, if_neg this]
  exact opF_e l (k + 1) fun m hm => h m (List.mem_cons_of_mem _ hm)
theorem opfZ_e : opfZ (qQq 0 (qQq 0 0)) = 0 := opF_e qZa 1 (by decide)
theorem wgo_ne : ∀ (l w x : List UInt8), x ∈ wgo w l → x ≠ []
 | [], w, x, h => by
  unfold wgo at h
  split at h
  ·simp at h
  ·simp at h; subst h; assumption
 | b :: r, w, x, h => by
  unfold wgo at h
  split at h
  ·split at h
   ·exact wgo_ne r [] x h
   ·rcases List.mem_cons.1 h with rfl | h
    ·assumption
    ·exact wgo_ne r [] x h
  ·exact wgo_ne r _ x h
theorem wrd_pos {s : Int} {k : Nat} (h : (k : Int) < wrdN s) : 1 ≤ qQz (rdZ (wrdC s) k) := by
 have hN : wrdN s = ((wrdL s).length : Int) := rfl
 have hk : k < (wrdL s).length := by omega
 have h1 := qKa s k hk
 have h2 := wgo_ne _ _ _ (List.getElem_mem hk)
 have h3 := qZu (rdZ (wrdC s) k)
 rw [h1] at h3
 have : 0 < ((wrdL s)[k]).length := List.length_pos_iff.2 h2
 omega
def parF (s e a b c d f : Int) : Prop := parE s = e ∧ parZ s 0 = (if e = 0 then a else 0) ∧ parZ s 1 = (if e = 0 then b else 0) ∧ parZ s 2 = (if e = 0 then c else 0) ∧ parZ s 3 = (if e = 0 then d else 0) ∧ parZ s 4 = (if e = 0 then f else 0)
theorem par_no {s : Int} (h : parO s = none) : parF s 3 0 0 0 0 0 := by
 obtain ⟨h1, h2⟩ := par_none h
 exact ⟨h1, h2 0, h2 1, h2 2, h2 3, h2 4⟩
theorem parF_0 {s op : Int} (ho : opfZ (rdZ (wrdC s) 0) = op) (h : 1 ≤ op ∧ op ≤ 23) (hn : 1 ≤ wrdN s) : ((wrdN s = 4 ∧ (1 ≤ qQz (rdZ (wrdC s) 1) ∧ ¬ seqZ (qQq 1 (qQq (qQv (rdZ (rdZ (wrdC s) 1) 1) 0) 0)) (qQq 1 (qQq (qQq 114 0) 0)) = 0 ∧ ¬ numK (qQq (qQz (rdZ (wrdC s) 1) - 1) (qQq (qQv (rdZ (rdZ (wrdC s) 1) 1) 1) 0)) = 0) ∧ (1 ≤ qQz (rdZ (wrdC s) 2) ∧ ¬ seqZ (qQq 1 (qQq (qQv (rdZ (rdZ (wrdC s) 2) 1) 0) 0)) (qQq 1 (qQq (qQq 114 0) 0)) = 0 ∧ ¬ numK (qQq (qQz (rdZ (wrdC s) 2) - 1) (qQq (qQv (rdZ (rdZ (wrdC s) 2) 1) 1) 0)) = 0) ∧ (1 ≤ qQz (rdZ (wrdC s) 3) ∧ ¬ seqZ (qQq 1 (qQq (qQv (rdZ (rdZ (wrdC s) 3) 1) 0) 0)) (qQq 1 (qQq (qQq 114 0) 0)) = 0 ∧ ¬ numK (qQq (qQz (rdZ (wrdC s) 3) - 1) (qQq (qQv (rdZ (rdZ (wrdC s) 3) 1) 1) 0)) = 0)) → parF s (cckI op (numZ (qQq (qQz (rdZ (wrdC s) 1) - 1) (qQq (qQv (rdZ (rdZ (wrdC s) 1) 1) 1) 0))) (numZ (qQq (qQz (rdZ (wrdC s) 2) - 1) (qQq (qQv (rdZ (rdZ (wrdC s) 2) 1) 1) 0))) (numZ (qQq (qQz (rdZ (wrdC s) 3) - 1) (qQq (qQv (rdZ (rdZ (wrdC s) 3) 1) 1) 0))) 0) op (numZ (qQq (qQz (rdZ (wrdC s) 1) - 1) (qQq (qQv (rdZ (rdZ (wrdC s) 1) 1) 1) 0))) (numZ (qQq (qQz (rdZ (wrdC s) 2) - 1) (qQq (qQv (rdZ (rdZ (wrdC s) 2) 1) 1) 0))) (numZ (qQq (qQz (rdZ (wrdC s) 3) - 1) (qQq (qQv (rdZ (rdZ (wrdC s) 3) 1) 1) 0))) 0) ∧ (¬ (wrdN s = 4 ∧ (1 ≤ qQz (rdZ (wrdC s) 1) ∧ ¬ seqZ (qQq 1 (qQq (qQv (rdZ (rdZ (wrdC s) 1) 1) 0) 0)) (qQq 1 (qQq (qQq 114 0) 0)) = 0 ∧ ¬ numK (qQq (qQz (rdZ (wrdC s) 1) - 1) (qQq (qQv (rdZ (rdZ (wrdC s) 1) 1) 1) 0)) = 0) ∧ (1 ≤ qQz (rdZ (wrdC s) 2) ∧ ¬ seqZ (qQq 1 (qQq (qQv (rdZ (rdZ (wrdC s) 2) 1) 0) 0)) (qQq 1 (qQq (qQq 114 0) 0)) = 0 ∧ ¬ numK (qQq (qQz (rdZ (wrdC s) 2) - 1) (qQq (qQv (rdZ (rdZ (wrdC s) 2) 1) 1) 0)) = 0) ∧ (1 ≤ qQz (rdZ (wrdC s) 3) ∧ ¬ seqZ (qQq 1 (qQq (qQv (rdZ (rdZ (wrdC s) 3) 1) 0) 0)) (qQq 1 (qQq (qQq 114 0) 0)) = 0 ∧ ¬ numK (qQq (qQz (rdZ (wrdC s) 3) - 1) (qQq (qQv (rdZ (rdZ (wrdC s) 3) 1) 1) 0)) = 0)) → parF s 3 0 0 0 0 0) := by
 have nb : ∀ x, i64B (numZ x) := fun x => ⟨by have := (qJm x).1; omega, by have := (qJm x).2; omega⟩
 have hp := par_0 ho h hn
 refine ⟨fun hc => ?_, fun hc => ?_⟩
 ·exact qKh (hp.trans (if_pos hc)) ⟨by omega, by omega⟩ (nb (qQq (qQz (rdZ (wrdC s) 1) - 1) (qQq (qQv (rdZ (rdZ (wrdC s) 1) 1) 1) 0))) (nb (qQq (qQz (rdZ (wrdC s) 2) - 1) (qQq (qQv (rdZ (rdZ (wrdC s) 2) 1) 1) 0))) (nb (qQq (qQz (rdZ (wrdC s) 3) - 1) (qQq (qQv (rdZ (rdZ (wrdC s) 3) 1) 1) 0))) ⟨by decide, by decide⟩
 ·exact par_no (hp.trans (if_neg hc))
theorem parF_1 {s op : Int} (ho : opfZ (rdZ (wrdC s) 0) = op) (h : 24 ≤ op ∧ op ≤ 30) (hn : 1 ≤ wrdN s) : ((wrdN s = 3 ∧ (1 ≤ qQz (rdZ (wrdC s) 1) ∧ ¬ seqZ (qQq 1 (qQq (qQv (rdZ (rdZ (wrdC s) 1) 1) 0) 0)) (qQq 1 (qQq (qQq 114 0) 0)) = 0 ∧ ¬ numK (qQq (qQz (rdZ (wrdC s) 1) - 1) (qQq (qQv (rdZ (rdZ (wrdC s) 1) 1) 1) 0)) = 0) ∧ (1 ≤ qQz (rdZ (wrdC s) 2) ∧ ¬ seqZ (qQq 1 (qQq (qQv (rdZ (rdZ (wrdC s) 2) 1) 0) 0)) (qQq 1 (qQq (qQq 114 0) 0)) = 0 ∧ ¬ numK (qQq (qQz (rdZ (wrdC s) 2) - 1) (qQq (qQv (rdZ (rdZ (wrdC s) 2) 1) 1) 0)) = 0)) → parF s (cckI op (numZ (qQq (qQz (rdZ (wrdC s) 1) - 1) (qQq (qQv (rdZ (rdZ (wrdC s) 1) 1) 1) 0))) (numZ (qQq (qQz (rdZ (wrdC s) 2) - 1) (qQq (qQv (rdZ (rdZ (wrdC s) 2) 1) 1) 0))) 0 0) op (numZ (qQq (qQz (rdZ (wrdC s) 1) - 1) (qQq (qQv (rdZ (rdZ (wrdC s) 1) 1) 1) 0))) (numZ (qQq (qQz (rdZ (wrdC s) 2) - 1) (qQq (qQv (rdZ (rdZ (wrdC s) 2) 1) 1) 0))) 0 0) ∧ (¬ (wrdN s = 3 ∧ (1 ≤ qQz (rdZ (wrdC s) 1) ∧ ¬ seqZ (qQq 1 (qQq (qQv (rdZ (rdZ (wrdC s) 1) 1) 0) 0)) (qQq 1 (qQq (qQq 114 0) 0)) = 0 ∧ ¬ numK (qQq (qQz (rdZ (wrdC s) 1) - 1) (qQq (qQv (rdZ (rdZ (wrdC s) 1) 1) 1) 0)) = 0) ∧ (1 ≤ qQz (rdZ (wrdC s) 2) ∧ ¬ seqZ (qQq 1 (qQq (qQv (rdZ (rdZ (wrdC s) 2) 1) 0) 0)) (qQq 1 (qQq (qQq 114 0) 0)) = 0 ∧ ¬ numK (qQq (qQz (rdZ (wrdC s) 2) - 1) (qQq (qQv (rdZ (rdZ (wrdC s) 2) 1) 1) 0)) = 0)) → parF s 3 0 0 0 0 0) := by
 have nb : ∀ x, i64B (numZ x) := fun x => ⟨by have := (qJm x).1; omega, by have := (qJm x).2; omega⟩
 have hp := par_1 ho h hn
 refine ⟨fun hc => ?_, fun hc => ?_⟩
 ·exact qKh (hp.trans (if_pos hc)) ⟨by omega, by omega⟩ (nb (qQq (qQz (rdZ (wrdC s) 1) - 1) (qQq (qQv (rdZ (rdZ (wrdC s) 1) 1) 1) 0))) (nb (qQq (qQz (rdZ (wrdC s) 2) - 1) (qQq (qQv (rdZ (rdZ (wrdC s) 2) 1) 1) 0))) ⟨by decide, by decide⟩ ⟨by decide, by decide⟩
 ·exact par_no (hp.trans (if_neg hc))
theorem parF_2 {s op : Int} (ho : opfZ (rdZ (wrdC s) 0) = op) (h : op = 31) (hn : 1 ≤ wrdN s) : ((wrdN s = 4 ∧ (1 ≤ qQz (rdZ (wrdC s) 1) ∧ ¬ seqZ (qQq 1 (qQq (qQv (rdZ (rdZ (wrdC s) 1) 1) 0) 0)) (qQq 1 (qQq (qQq 114 0) 0)) = 0 ∧ ¬ numK (qQq (qQz (rdZ (wrdC s) 1) - 1) (qQq (qQv (rdZ (rdZ (wrdC s) 1) 1) 1) 0)) = 0) ∧ (1 ≤ qQz (rdZ (wrdC s) 2) ∧ ¬ seqZ (qQq 1 (qQq (qQv (rdZ (rdZ (wrdC s) 2) 1) 0) 0)) (qQq 1 (qQq (qQq 114 0) 0)) = 0 ∧ ¬ numK (qQq (qQz (rdZ (wrdC s) 2) - 1) (qQq (qQv (rdZ (rdZ (wrdC s) 2) 1) 1) 0)) = 0) ∧ ¬ numK (rdZ (wrdC s) 3) = 0) → parF s (cckI op (numZ (qQq (qQz (rdZ (wrdC s) 1) - 1) (qQq (qQv (rdZ (rdZ (wrdC s) 1) 1) 1) 0))) (numZ (qQq (qQz (rdZ (wrdC s) 2) - 1) (qQq (qQv (rdZ (rdZ (wrdC s) 2) 1) 1) 0))) 0 (numZ (rdZ (wrdC s) 3))) op (numZ (qQq (qQz (rdZ (wrdC s) 1) - 1) (qQq (qQv (rdZ (rdZ (wrdC s) 1) 1) 1) 0))) (numZ (qQq (qQz (rdZ (wrdC s) 2) - 1) (qQq (qQv (rdZ (rdZ (wrdC s) 2) 1) 1) 0))) 0 (numZ (rdZ (wrdC s) 3))) ∧ (¬ (wrdN s = 4 ∧ (1 ≤ qQz (rdZ (wrdC s) 1) ∧ ¬ seqZ (qQq 1 (qQq (qQv (rdZ (rdZ (wrdC s) 1) 1) 0) 0)) (qQq 1 (qQq (qQq 114 0) 0)) = 0 ∧ ¬ numK (qQq (qQz (rdZ (wrdC s) 1) - 1) (qQq (qQv (rdZ (rdZ (wrdC s) 1) 1) 1) 0)) = 0) ∧ (1 ≤ qQz (rdZ (wrdC s) 2) ∧ ¬ seqZ (qQq 1 (qQq (qQv (rdZ (rdZ (wrdC s) 2) 1) 0) 0)) (qQq 1 (qQq (qQq 114 0) 0)) = 0 ∧ ¬ numK (qQq (qQz (rdZ (wrdC s) 2) - 1) (qQq (qQv (rdZ (rdZ (wrdC s) 2) 1) 1) 0)) = 0) ∧ ¬ numK (rdZ (wrdC s) 3) = 0) → parF s 3 0 0 0 0 0) := by
 have nb : ∀ x, i64B (numZ x) := fun x => ⟨by have := (qJm x).1; omega, by have := (qJm x).2; omega⟩
 have hp := par_2 ho h hn
 refine ⟨fun hc => ?_, fun hc => ?_⟩
 ·exact qKh (hp.trans (if_pos hc)) ⟨by omega, by omega⟩ (nb (qQq (qQz (rdZ (wrdC s) 1) - 1) (qQq (qQv (rdZ (rdZ (wrdC s) 1) 1) 1) 0))) (nb (qQq (qQz (rdZ (wrdC s) 2) - 1) (qQq (qQv (rdZ (rdZ (wrdC s) 2) 1) 1) 0))) ⟨by decide, by decide⟩ (nb (rdZ (wrdC s) 3))
 ·exact par_no (hp.trans (if_neg hc))
theorem parF_3 {s op : Int} (ho : opfZ (rdZ (wrdC s) 0) = op) (h : op = 32 ∨ (34 ≤ op ∧ op ≤ 38)) (hn : 1 ≤ wrdN s) : ((wrdN s = 4 ∧ (1 ≤ qQz (rdZ (wrdC s) 1) ∧ ¬ seqZ (qQq 1 (qQq (qQv (rdZ (rdZ (wrdC s) 1) 1) 0) 0)) (qQq 1 (qQq (qQq 114 0) 0)) = 0 ∧ ¬ numK (qQq (qQz (rdZ (wrdC s) 1) - 1) (qQq (qQv (rdZ (rdZ (wrdC s) 1) 1) 1) 0)) = 0) ∧ (1 ≤ qQz (rdZ (wrdC s) 2) ∧ ¬ seqZ (qQq 1 (qQq (qQv (rdZ (rdZ (wrdC s) 2) 1) 0) 0)) (qQq 1 (qQq (qQq 114 0) 0)) = 0 ∧ ¬ numK (qQq (qQz (rdZ (wrdC s) 2) - 1) (qQq (qQv (rdZ (rdZ (wrdC s) 2) 1) 1) 0)) = 0) ∧ ¬ numK (rdZ (wrdC s) 3) = 0) → parF s (cckI op (numZ (qQq (qQz (rdZ (wrdC s) 1) - 1) (qQq (qQv (rdZ (rdZ (wrdC s) 1) 1) 1) 0))) (numZ (qQq (qQz (rdZ (wrdC s) 2) - 1) (qQq (qQv (rdZ (rdZ (wrdC s) 2) 1) 1) 0))) 0 (numZ (rdZ (wrdC s) 3))) op (numZ (qQq (qQz (rdZ (wrdC s) 1) - 1) (qQq (qQv (rdZ (rdZ (wrdC s) 1) 1) 1) 0))) (numZ (qQq (qQz (rdZ (wrdC s) 2) - 1) (qQq (qQv (rdZ (rdZ (wrdC s) 2) 1) 1) 0))) 0 (numZ (rdZ (wrdC s) 3))) ∧ (¬ (wrdN s = 4 ∧ (1 ≤ qQz (rdZ (wrdC s) 1) ∧ ¬ seqZ (qQq 1 (qQq (qQv (rdZ (rdZ (wrdC s) 1) 1) 0) 0)) (qQq 1 (qQq (qQq 114 0) 0)) = 0 ∧ ¬ numK (qQq (qQz (rdZ (wrdC s) 1) - 1) (qQq (qQv (rdZ (rdZ (wrdC s) 1) 1) 1) 0)) = 0) ∧ (1 ≤ qQz (rdZ (wrdC s) 2) ∧ ¬ seqZ (qQq 1 (qQq (qQv (rdZ (rdZ (wrdC s) 2) 1) 0) 0)) (qQq 1 (qQq (qQq 114 0) 0)) = 0 ∧ ¬ numK (qQq (qQz (rdZ (wrdC s) 2) - 1) (qQq (qQv (rdZ (rdZ (wrdC s) 2) 1) 1) 0)) = 0) ∧ ¬ numK (rdZ (wrdC s) 3) = 0) → parF s 3 0 0 0 0 0) := by
 have nb : ∀ x, i64B (numZ x) := fun x => ⟨by have := (qJm x).1; omega, by have := (qJm x).2; omega⟩
 have hp := par_3 ho h hn
 refine ⟨fun hc => ?_, fun hc => ?_⟩
 ·exact qKh (hp.trans (if_pos hc)) ⟨by omega, by omega⟩ (nb (qQq (qQz (rdZ (wrdC s) 1) - 1) (qQq (qQv (rdZ (rdZ (wrdC s) 1) 1) 1) 0))) (nb (qQq (qQz (rdZ (wrdC s) 2) - 1) (qQq (qQv (rdZ (rdZ (wrdC s) 2) 1) 1) 0))) ⟨by decide, by decide⟩ (nb (rdZ (wrdC s) 3))
 ·exact par_no (hp.trans (if_neg hc))
theorem parF_4 {s op : Int} (ho : opfZ (rdZ (wrdC s) 0) = op) (h : op = 33 ∨ op = 40) (hn : 1 ≤ wrdN s) : ((wrdN s = 3 ∧ (1 ≤ qQz (rdZ (wrdC s) 1) ∧ ¬ seqZ (qQq 1 (qQq (qQv (rdZ (rdZ (wrdC s) 1) 1) 0) 0)) (qQq 1 (qQq (qQq 114 0) 0)) = 0 ∧ ¬ numK (qQq (qQz (rdZ (wrdC s) 1) - 1) (qQq (qQv (rdZ (rdZ (wrdC s) 1) 1) 1) 0)) = 0) ∧ ¬ numK (rdZ (wrdC s) 2) = 0) → parF s (cckI op (numZ (qQq (qQz (rdZ (wrdC s) 1) - 1) (qQq (qQv (rdZ (rdZ (wrdC s) 1) 1) 1) 0))) 0 0 (numZ (rdZ (wrdC s) 2))) op (numZ (qQq (qQz (rdZ (wrdC s) 1) - 1) (qQq (qQv (rdZ (rdZ (wrdC s) 1) 1) 1) 0))) 0 0 (numZ (rdZ (wrdC s) 2))) ∧ (¬ (wrdN s = 3 ∧ (1 ≤ qQz (rdZ (wrdC s) 1) ∧ ¬ seqZ (qQq 1 (qQq (qQv (rdZ (rdZ (wrdC s) 1) 1) 0) 0)) (qQq 1 (qQq (qQq 114 0) 0)) = 0 ∧ ¬ numK (qQq (qQz (rdZ (wrdC s) 1) - 1) (qQq (qQv (rdZ (rdZ (wrdC s) 1) 1) 1) 0)) = 0) ∧ ¬ numK (rdZ (wrdC s) 2) = 0) → parF s 3 0 0 0 0 0) := by
 have nb : ∀ x, i64B (numZ x) := fun x => ⟨by have := (qJm x).1; omega, by have := (qJm x).2; omega⟩
 have hp := par_4 ho h hn
 refine ⟨fun hc => ?_, fun hc => ?_⟩
 ·exact qKh (hp.trans (if_pos hc)) ⟨by omega, by omega⟩ (nb (qQq (qQz (rdZ (wrdC s) 1) - 1) (qQq (qQv (rdZ (rdZ (wrdC s) 1) 1) 1) 0))) ⟨by decide, by decide⟩ ⟨by decide, by decide⟩ (nb (rdZ (wrdC s) 2))
 ·exact par_no (hp.trans (if_neg hc))
theorem parF_5 {s op : Int} (ho : opfZ (rdZ (wrdC s) 0) = op) (h : op = 39) (hn : 1 ≤ wrdN s) : ((wrdN s = 2 ∧ ¬ numK (rdZ (wrdC s) 1) = 0) → parF s (cckI op 0 0 0 (numZ (rdZ (wrdC s) 1))) op 0 0 0 (numZ (rdZ (wrdC s) 1))) ∧ (¬ (wrdN s = 2 ∧ ¬ numK (rdZ (wrdC s) 1) = 0) → parF s 3 0 0 0 0 0) := by
 have nb : ∀ x, i64B (numZ x) := fun x => ⟨by have := (qJm x).1; omega, by have := (qJm x).2; omega⟩
 have hp := par_5 ho h hn
 refine ⟨fun hc => ?_, fun hc => ?_⟩
 ·exact qKh (hp.trans (if_pos hc)) ⟨by omega, by omega⟩ ⟨by decide, by decide⟩ ⟨by decide, by decide⟩ ⟨by decide, by decide⟩ (nb (rdZ (wrdC s) 1))
 ·exact par_no (hp.trans (if_neg hc))
theorem parF_6 {s op : Int} (ho : opfZ (rdZ (wrdC s) 0) = op) (h : op = 41) (hn : 1 ≤ wrdN s) : ((wrdN s = 2 ∧ (1 ≤ qQz (rdZ (wrdC s) 1) ∧ ¬ seqZ (qQq 1 (qQq (qQv (rdZ (rdZ (wrdC s) 1) 1) 0) 0)) (qQq 1 (qQq (qQq 114 0) 0)) = 0 ∧ ¬ numK (qQq (qQz (rdZ (wrdC s) 1) - 1) (qQq (qQv (rdZ (rdZ (wrdC s) 1) 1) 1) 0)) = 0)) → parF s (cckI op 0 (numZ (qQq (qQz (rdZ (wrdC s) 1) - 1) (qQq (qQv (rdZ (rdZ (wrdC s) 1) 1) 1) 0))) 0 0) op 0 (numZ (qQq (qQz (rdZ (wrdC s) 1) - 1) (qQq (qQv (rdZ (rdZ (wrdC s) 1) 1) 1) 0))) 0 0) ∧ (¬ (wrdN s = 2 ∧ (1 ≤ qQz (rdZ (wrdC s) 1) ∧ ¬ seqZ (qQq 1 (qQq (qQv (rdZ (rdZ (wrdC s) 1) 1) 0) 0)) (qQq 1 (qQq (qQq 114 0) 0)) = 0 ∧ ¬ numK (qQq (qQz (rdZ (wrdC s) 1) - 1) (qQq (qQv (rdZ (rdZ (wrdC s) 1) 1) 1) 0)) = 0)) → parF s 3 0 0 0 0 0) := by
 have nb : ∀ x, i64B (numZ x) := fun x => ⟨by have := (qJm x).1; omega, by have := (qJm x).2; omega⟩
 have hp := par_6 ho h hn
 refine ⟨fun hc => ?_, fun hc => ?_⟩
 ·exact qKh (hp.trans (if_pos hc)) ⟨by omega, by omega⟩ ⟨by decide, by decide⟩ (nb (qQq (qQz (rdZ (wrdC s) 1) - 1) (qQq (qQv (rdZ (rdZ (wrdC s) 1) 1) 1) 0))) ⟨by decide, by decide⟩ ⟨by decide, by decide⟩
 ·exact par_no (hp.trans (if_neg hc))
theorem parF_7 {s op : Int} (ho : opfZ (rdZ (wrdC s) 0) = op) (h : op = 42 ∨ op = 43) (hn : 1 ≤ wrdN s) : ((wrdN s = 1) → parF s (cckI op 0 0 0 0) op 0 0 0 0) ∧ (¬ (wrdN s = 1) → parF s 3 0 0 0 0 0) := by
 have nb : ∀ x, i64B (numZ x) := fun x => ⟨by have := (qJm x).1; omega, by have := (qJm x).2; omega⟩
 have hp := par_7 ho h hn
 refine ⟨fun hc => ?_, fun hc => ?_⟩
 ·exact qKh (hp.trans (if_pos hc)) ⟨by omega, by omega⟩ ⟨by decide, by decide⟩ ⟨by decide, by decide⟩ ⟨by decide, by decide⟩ ⟨by decide, by decide⟩
 ·exact par_no (hp.trans (if_neg hc))
theorem opF_le (s : Int) : ∀ (l : List (List Int)) (k : Int), 1 ≤ k → opF l k s = 0 ∨ opF l k s < k + l.length
 | [], k, _ => .inl rfl
 | n :: l, k, hk => by
  simp only [opF]
  split
  ·right; simp only [List.length_cons]; omega
  ·rcases opF_le s l (k + 1) (by omega) with h | h
   ·exact .inl h
   ·right; simp only [List.length_cons]; omega
theorem opfZ_le (s : Int) : opfZ s ≤ 43 := by
 have h := opF_le s qZa 1 (by omega)
 have : qZa.length = 43 := by decide
 unfold opfZ
 omega
end Go.Eng
end
