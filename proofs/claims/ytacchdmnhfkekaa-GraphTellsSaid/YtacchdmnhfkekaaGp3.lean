/-
  Parts of the engine, a program's symbolic run, proved sound; and of plain laws.
-/
import Derived.Test.YtacchdmnhfkekaaGu5
import Derived.Test.YtacchdmnhfkekaaGp1
import Derived.Test.YtacchdmnhfkekaaGp2
set_option linter.unusedVariables false
set_option linter.unusedSimpArgs false
/-!  -/
noncomputable section
namespace Go.Eng
theorem strOf_bytL (s : Int) : qQy s = ⟨(bytL s).toArray⟩ := by unfold bytL; simp
theorem strOf_iff {a b : Int} : qQy a = qQy b ↔ bytL a = bytL b := by
 constructor
 ·intro h; unfold bytL; rw [h]
 ·intro h; rw [strOf_bytL a, strOf_bytL b, h]
def Tx (q : Int) (W : List (List UInt8)) : Prop := ∀ i : Nat, (h : i < W.length) → bytL (rdZ q i) = W[i]
theorem Tx.nil (q : Int) : Tx q [] := fun i h => by simp at h
theorem Tx.snoc {q : Int} {W : List (List UInt8)} (h : Tx q W) {n x : Int} {w : List UInt8} (hn : n = W.length) (hx : bytL x = w) : Tx (updZ q n x) (W ++ [w]) := by
 intro i hi
 rw [qZt]
 rw [List.length_append, List.length_singleton] at hi
 by_cases e : i = W.length
 ·rw [if_pos (by omega), hx]
  simp [e]
 ·rw [if_neg (by omega), List.getElem_append_left (by omega)]
  exact h i (by omega)
theorem Tx.eq {q c : Int} {W : List (List UInt8)} (h : Tx q W) (k : Tx c W) {n : Int} (hn : n ≤ W.length) : qQd [.str] q c n := by
 intro i hi
 have h1 := h i (by omega)
 have h2 := k i (by omega)
 have : qQy (rdZ q i) = qQy (rdZ c i) := strOf_iff.2 (h1.trans h2.symm)
 simp only [qQw, ckV, this]
theorem Tx.cons {x c : Int} {w : List UInt8} {W : List (List UInt8)} (hx : bytL x = w) (h : Tx c W) : Tx (qQj x c) (w :: W) := by
 intro i hi
 cases i with
 | zero => rw [show ((0 : Nat) : Int) = 0 from rfl, qQa, hx]; rfl
 | succ i =>
  rw [qQs _ _ (by omega), show ((i + 1 : Nat) : Int) - 1 = (i : Nat) by omega]
  exact h i (by simpa using hi)
end Go.Eng
end
/-!  -/
noncomputable section
namespace Go.Eng
def rokP (x : Int) : Prop := 1 ≤ qZr x ∧ ¬ seqZ (qQj 1 (qQj (dropZ (rdZ x 1) 0) 0)) (qQj 1 (qQj (qQj 114 0) 0)) = 0 ∧ ¬ numK (qQj (qZr x - 1) (qQj (dropZ (rdZ x 1) 1) 0)) = 0
noncomputable instance (x : Int) : Decidable (rokP x) := by unfold rokP; infer_instance
end Go.Eng
end
/-!  -/
noncomputable section
namespace Go.Eng
set_option maxRecDepth 10000
end Go.Eng
end
/-!  -/
noncomputable section
namespace Go.Eng
noncomputable abbrev nmOf (q : Int) (i : Nat) : ByteArray := qQy (rdZ (rdZ q i) 0)
noncomputable abbrev txs (z : Int) (m : Nat) : List (List UInt8) := (List.range m).map fun (j : Nat) => bytL (rdZ z j)
noncomputable abbrev txq (q : Int) (m : Nat) : List (List UInt8) := (List.range m).map fun (j : Nat) => bytL (rdZ (rdZ q j) 0)
theorem smf_self (c n : Int) : smfZ c c n = 1 := if_pos fun _ _ => rfl
end Go.Eng
end
/-!  -/
noncomputable section
namespace Go.Eng
def qA : Int := qQj 2617245697 (qQj 2415919104 0)
theorem qA_0 : rdZ qA 0 = 2617245697 := rd_two0 _ _
theorem qA_1 : rdZ qA 1 = 2415919104 := rd_two1 _ _
theorem aw_0 : nxL qA 2 0 = [1] := by
 have h0 : decZ (IntKind.wrap .u32 2617245697) 0 = 39 := by decide
 have h4 : decZ (IntKind.wrap .u32 2617245697) 4 = 1 := by decide
 unfold nxL
 rw [qA_0, h0, h4]
 simp
theorem aw_1 : nxL qA 2 1 = [0] := by
 have h0 : decZ (IntKind.wrap .u32 2415919104) 0 = 36 := by decide
 have h4 : decZ (IntKind.wrap .u32 2415919104) 4 = 0 := by decide
 unfold nxL
 rw [qA_1, h0, h4]
 simp [go2]
theorem awf_0 : nxf qA 2 0 = [1] := by unfold nxf; rw [show ((0 : Nat) : Int) = 0 from rfl, aw_0]; rfl
theorem awf_1 : nxf qA 2 1 = [0] := by unfold nxf; rw [show ((1 : Nat) : Int) = 1 from rfl, aw_1]; rfl
theorem aw_way : Way (nxf qA 2) (fun _ => False) 0 1 := (Way.here id).on (by rw [awf_0]; simp) id
theorem aw_ahd : ahdP qA 2 0 1 := by
 refine ⟨by omega, by omega, by omega, by omega, by simpa using aw_way, .inr ⟨by simp, fun h => ?_⟩⟩
 exact h.nbar.1 rfl
theorem aw_not : ¬ahdP qA 2 1 0 := fun h => by
 rcases h.2.2.2.2.2 with e | ⟨_, g⟩
 ·simp at e
 ·exact g (.here (by simp))
theorem aw_bks : bksL qA 2 2 = [(1, 0)] := by
 classical
 have e : List.range 2 = [0, 1] := rfl
 unfold bksL
 rw [e]
 have h0 : bkL qA 2 (0 : Nat) = [] := by
  unfold bkL
  rw [show ((0 : Nat) : Int) = 0 from rfl, aw_0]
  simp [aw_not]
 have h1 : bkL qA 2 (1 : Nat) = [0] := by
  unfold bkL
  rw [show ((1 : Nat) : Int) = 1 from rfl, aw_1]
  simp [aw_ahd]
 simp only [List.flatMap_cons, List.flatMap_nil, h0, h1]
 rfl
theorem aw_min : min ((2 : Int)).toNat 1000 = 2 := rfl
theorem aw_bkN : bkN qA 2 = 1 := by unfold bkN; rw [aw_min, aw_bks]; rfl
theorem aw_bkZ : bkZ qA 2 = qQj (qQj 1 (qQj 0 0)) 0 := by
 unfold bkZ; rw [aw_min, aw_bks]
 exact nx_z1 _
theorem aw_cyc : cycZ qA 2 ≠ 0 := cyc_ne.2 ⟨1, aw_way, 0, by rw [awf_1]; simp, aw_way⟩
theorem aw_lp : lpL qA 2 0 2 = [0, 1] := by
 classical
 have e : List.range 2 = [0, 1] := rfl
 have h0 : lpP qA 2 0 0 := ⟨1, by rw [aw_min, aw_bks]; simp, .here id, .inl rfl⟩
 have h1 : lpP qA 2 0 1 := ⟨1, by rw [aw_min, aw_bks]; simp, aw_way, .inr (.here (by simp))⟩
 unfold lpL
 rw [e]
 simp [h0, h1]
theorem aw_lpN : lpN qA 2 0 = 2 := by unfold lpN; rw [aw_min, aw_lp]; rfl
theorem aw_lpZ : lpZ qA 2 0 = qQj 0 (qQj 1 0) := by unfold lpZ; rw [aw_min, aw_lp]; exact nx_z2 _ _
theorem aw_nxN : nxN qA 2 1 = 1 := by unfold nxN; rw [aw_1]; rfl
theorem aw_nxZ : nxZ qA 2 1 = qQj 0 0 := by unfold nxZ; rw [aw_1]; exact nx_z1 _
theorem aw_ahdZ : ahdZ qA 2 (qQj 0 (qQj 1 0)) ≠ 0 := ahd_ne.2 aw_ahd
end Go.Eng
end
