/-
  A symbolic executor, part Q: tables of types and functions as trees.
-/
import Derived.Test.YtjooaieolphomaaEngP
set_option linter.unusedVariables false
set_option linter.unusedSimpArgs false
namespace Go.Eng

inductive BT (α : Type) where
  | nil
  | node (k : Nat) (v : α) (l r : BT α)

def BT.find {α : Type} : BT α → Nat → Option α
  | .nil, _ => none
  | .node k v l r, i => match Nat.beq i k with
    | true => some v
    | false => match Nat.blt i k with
      | true => l.find i
      | false => r.find i

def BT.All {α : Type} (p : Nat → α → Prop) : BT α → Prop
  | .nil => True
  | .node k v l r => p k v ∧ BT.All p l ∧ BT.All p r

theorem BT.find_all {α : Type} {p : Nat → α → Prop} : ∀ {t : BT α} {i : Nat} {v : α}, t.All p → t.find i = some v → p i v
  | .nil, i, v, _, h => by cases h
  | .node k u l r, i, v, ha, h => by
    simp only [BT.find] at h
    split at h
    · rename_i hk
      cases h
      have : i = k := Nat.eq_of_beq_eq_true hk
      subst this
      exact ha.1
    · split at h
      · exact BT.find_all ha.2.1 h
      · exact BT.find_all ha.2.2 h

def infB (t : BT TypeInfo) (i : TypeId) : Option TypeInfo := t.find i
def undB (t : BT TypeInfo) (i : TypeId) : Option TypeDesc :=
  match t.find i with
  | some j => match j.desc with
    | .named _ u => (match t.find u with
      | some k => some k.desc
      | none => none)
    | d => some d
  | none => none
def fnB (t : BT Func) (i : FuncId) : Option Func := t.find i

theorem undB_ok {P : Program} {t : BT TypeInfo} (h : t.All fun i v => P.info? i = some v) (i : TypeId) (d : TypeDesc) (hd : undB t i = some d) : P.underlying i = some d := by
  unfold undB at hd
  split at hd
  · rename_i j hj
    have h1 := BT.find_all h hj
    obtain ⟨desc, a1, a2, a3, a4, a5, a6, a7, a8, a9⟩ := j
    simp only at hd
    split at hd
    · rename_i n u
      split at hd <;> cases hd
      rename_i k hk
      have h2 := BT.find_all h hk
      simp only [Program.underlying, h1, h2, Option.map_some]
    · rename_i hno
      cases hd
      unfold Program.underlying
      rw [h1]
      cases d <;> first | rfl | (exact (hno _ _ rfl).elim)
  · cases hd

end Go.Eng
