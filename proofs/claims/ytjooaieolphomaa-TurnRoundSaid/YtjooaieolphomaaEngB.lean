/-
  A symbolic executor, part B: symbolic values, blocks of memory, what they stand for.
-/
import Derived.Test.YtjooaieolphomaaEngA
import Derived.Laws.AppendOwn
set_option linter.unusedVariables false
set_option linter.unusedSimpArgs false
namespace Go.Eng

inductive SV where
  | int (k : IntKind) (e : E)
  | bool (e : E)
  | ptr (j off : Nat)
  | lit (v : Value)
  | any (i : Nat)
  | slice (j off len : Nat) (cap : Option Nat)
  | func (fn : Fn) (first cap : List SV)
  | iface (t : TypeId) (x : SV)
  | agg (l : List SV)
  | tup (l : List SV)
  deriving Inhabited

mutual
def SV.den (ρ : Env) (β : Nat → Nat × Nat) : SV → Value
  | .int k e => .int k (e.ev ρ)
  | .bool e => .bool (e.ev ρ != 0)
  | .ptr j off => .pointer (some ⟨(β j).1, off, none⟩)
  | .lit v => v
  | .any i => ρ.v i
  | .slice j off len cap => .slice (some ⟨(β j).1, off, none⟩) len (cap.getD (β j).2)
  | .func fn a c => .func fn (SV.denL ρ β a).toArray (SV.denL ρ β c).toArray
  | .iface t x => .iface t (x.den ρ β)
  | .agg l => .agg (SV.denL ρ β l).toArray
  | .tup l => .tuple (SV.denL ρ β l).toArray
def SV.denL (ρ : Env) (β : Nat → Nat × Nat) : List SV → List Value
  | [] => []
  | x :: l => x.den ρ β :: SV.denL ρ β l
end

theorem denL_map (ρ : Env) (β : Nat → Nat × Nat) (l : List SV) : SV.denL ρ β l = l.map (SV.den ρ β) := by
  induction l with
  | nil => rfl
  | cons x l ih => simp [SV.denL, ih]

@[simp] theorem denL_length (ρ : Env) (β : Nat → Nat × Nat) (l : List SV) : (SV.denL ρ β l).length = l.length := by simp [denL_map]
@[simp] theorem denL_append (ρ : Env) (β : Nat → Nat × Nat) (l m : List SV) : SV.denL ρ β (l ++ m) = SV.denL ρ β l ++ SV.denL ρ β m := by simp [denL_map]
theorem denL_get (ρ : Env) (β : Nat → Nat × Nat) (l : List SV) (i : Nat) : (SV.denL ρ β l)[i]? = (l[i]?).map (SV.den ρ β) := by simp [denL_map]
theorem denL_set (ρ : Env) (β : Nat → Nat × Nat) (l : List SV) (i : Nat) (x : SV) : SV.denL ρ β (l.set i x) = (SV.denL ρ β l).set i (x.den ρ β) := by simp [denL_map, List.map_set]

def undefS : SV := .tup []
theorem den_undef (ρ : Env) (β : Nat → Nat × Nat) : undefS.den ρ β = undef := rfl

theorem denL_getD (ρ : Env) (β : Nat → Nat × Nat) (l : List SV) (i : Nat) : (SV.denL ρ β l).toArray.getD i undef = (l.getD i undefS).den ρ β := by
  simp only [Array.getD_eq_getD_getElem?, List.getElem?_toArray, denL_get, List.getD_eq_getElem?_getD]
  cases l[i]? <;> simp [den_undef]

/-! ### scope -/

mutual
def SV.sc (n : Nat) : SV → Bool
  | .ptr j _ => decide (j < n)
  | .slice j _ _ _ => decide (j < n)
  | .func _ a c => SV.scL n a && SV.scL n c
  | .iface _ x => x.sc n
  | .agg l => SV.scL n l
  | .tup l => SV.scL n l
  | _ => true
def SV.scL (n : Nat) : List SV → Bool
  | [] => true
  | x :: l => x.sc n && SV.scL n l
end

mutual
theorem SV.den_sc {ρ : Env} {β β' : Nat → Nat × Nat} {n : Nat} (hb : ∀ j, j < n → β' j = β j) : ∀ (s : SV), s.sc n = true → s.den ρ β' = s.den ρ β
  | .int _ _, _ => rfl
  | .bool _, _ => rfl
  | .ptr j off, h => by simp [SV.sc] at h; simp [SV.den, hb j h]
  | .lit _, _ => rfl
  | .any _, _ => rfl
  | .slice j off len cap, h => by simp [SV.sc] at h; simp [SV.den, hb j h]
  | .func fn a c, h => by simp [SV.sc] at h; simp [SV.den, SV.denL_sc hb a h.1, SV.denL_sc hb c h.2]
  | .iface t x, h => by simp [SV.sc] at h; simp [SV.den, SV.den_sc hb x h]
  | .agg l, h => by simp [SV.sc] at h; simp [SV.den, SV.denL_sc hb l h]
  | .tup l, h => by simp [SV.sc] at h; simp [SV.den, SV.denL_sc hb l h]
theorem SV.denL_sc {ρ : Env} {β β' : Nat → Nat × Nat} {n : Nat} (hb : ∀ j, j < n → β' j = β j) : ∀ (l : List SV), SV.scL n l = true → SV.denL ρ β' l = SV.denL ρ β l
  | [], _ => rfl
  | x :: l, h => by simp [SV.scL] at h; simp [SV.denL, SV.den_sc hb x h.1, SV.denL_sc hb l h.2]
end

/-! ### equality -/

def Fn.beq : Fn → Fn → Bool
  | .func f, .func g => f == g
  | _, _ => false
theorem Fn.eq_of_beq {f g : Fn} (h : Fn.beq f g = true) : f = g := by
  cases f <;> cases g <;> simp_all [Fn.beq]

/-- constants that are compared: by sight -/
def vbeq : Value → Value → Bool
  | .pointer none, .pointer none => true
  | .nilIface, .nilIface => true
  | .nilFunc, .nilFunc => true
  | .slice none a b, .slice none c d => a == c && b == d
  | .string a, .string b => decide (a = b)
  | .map none, .map none => true
  | _, _ => false
theorem vbeq_eq {a b : Value} (h : vbeq a b = true) : a = b := by
  unfold vbeq at h
  split at h <;> simp_all

mutual
def SV.beq : SV → SV → Bool
  | .int k e, .int k' e' => decide (k = k') && e.beq e'
  | .bool e, .bool e' => e.beq e'
  | .ptr j o, .ptr j' o' => j == j' && o == o'
  | .lit v, .lit v' => vbeq v v'
  | .any i, .any j => i == j
  | .slice j o l c, .slice j' o' l' c' => j == j' && o == o' && l == l' && decide (c = c')
  | .func f a c, .func f' a' c' => Fn.beq f f' && SV.beqL a a' && SV.beqL c c'
  | .iface t x, .iface t' x' => t == t' && x.beq x'
  | .agg l, .agg l' => SV.beqL l l'
  | .tup l, .tup l' => SV.beqL l l'
  | _, _ => false
def SV.beqL : List SV → List SV → Bool
  | [], [] => true
  | x :: l, y :: m => x.beq y && SV.beqL l m
  | _, _ => false
end

mutual
theorem SV.eq_of_beq : ∀ (x y : SV), x.beq y = true → x = y
  | .int k e, y, h => by cases y <;> simp [SV.beq] at h; rw [h.1, E.eq_of_beq h.2]
  | .bool e, y, h => by cases y <;> simp [SV.beq] at h; rw [E.eq_of_beq h]
  | .ptr j o, y, h => by cases y <;> simp [SV.beq] at h; rw [h.1, h.2]
  | .lit v, y, h => by cases y <;> simp [SV.beq] at h; rw [vbeq_eq h]
  | .any i, y, h => by cases y <;> simp [SV.beq] at h; rw [h]
  | .slice j o l c, y, h => by cases y <;> simp [SV.beq] at h; rw [h.1.1.1, h.1.1.2, h.1.2, h.2]
  | .func f a c, y, h => by cases y <;> simp [SV.beq] at h; rw [Fn.eq_of_beq h.1.1, SV.eqL_of_beq _ _ h.1.2, SV.eqL_of_beq _ _ h.2]
  | .iface t x, y, h => by cases y <;> simp [SV.beq] at h; rw [h.1, SV.eq_of_beq _ _ h.2]
  | .agg l, y, h => by cases y <;> simp [SV.beq] at h; rw [SV.eqL_of_beq _ _ h]
  | .tup l, y, h => by cases y <;> simp [SV.beq] at h; rw [SV.eqL_of_beq _ _ h]
theorem SV.eqL_of_beq : ∀ (x y : List SV), SV.beqL x y = true → x = y
  | [], y, h => by cases y <;> simp [SV.beqL] at h; rfl
  | a :: l, y, h => by cases y <;> simp [SV.beqL] at h; rw [SV.eq_of_beq _ _ h.1, SV.eqL_of_beq _ _ h.2]
end

/-! ### what a value is made of -/

/-- it lies in one cell -/
def SV.one : SV → Bool
  | .agg _ => false
  | .tup _ => false
  | .lit (.agg _) => false
  | .lit (.tuple _) => false
  | _ => true

def oneV : Value → Bool
  | .agg _ => false
  | .tuple _ => false
  | _ => true

theorem SV.one_den {cx : Cx} {ρ : Env} (hρ : EnvOk cx ρ) (β : Nat → Nat × Nat) {s : SV} (h : s.one = true) : oneV (s.den ρ β) = true := by
  cases s <;> simp [SV.one] at h <;> simp [SV.den, oneV]
  case lit v => cases v <;> simp_all
  case any i => obtain ⟨a, ha⟩ := hρ.hv i; simp [ha]

def allOne (l : List SV) : Bool := l.all SV.one

def SV.cells (s : SV) : Option (List SV) :=
  match s with
  | .agg l => if allOne l then some l else none
  | s => if s.one then some [s] else none

theorem SV.cells_den {cx : Cx} {ρ : Env} (hρ : EnvOk cx ρ) (β : Nat → Nat × Nat) {s : SV} {l : List SV} (h : s.cells = some l) :
    (s.den ρ β).cells = (SV.denL ρ β l).toArray ∧ allOne l = true := by
  unfold SV.cells at h
  split at h
  · split at h <;> simp at h
    subst h
    exact ⟨rfl, by assumption⟩
  · split at h <;> simp at h
    rename_i h1
    subst h
    have := SV.one_den hρ β h1
    refine ⟨?_, by simp [allOne, h1]⟩
    simp only [SV.denL]
    cases hd : SV.den ρ β s <;> simp [hd, oneV] at this <;> rfl

/-- a constant, as a symbolic value -/
def toS1 : Value → SV
  | .int k n => .int k (.c n)
  | .bool b => .bool (.c (bool01 b))
  | v => .lit v
theorem bool01_ne (b : Bool) : (bool01 b != 0) = b := by cases b <;> rfl
theorem toS1_den (ρ : Env) (β : Nat → Nat × Nat) (v : Value) : (toS1 v).den ρ β = v := by
  cases v <;> simp [toS1, SV.den, E.ev, bool01_ne]
def toS : Value → SV
  | .agg cs => .agg (cs.toList.map toS1)
  | .tuple cs => .tup (cs.toList.map toS1)
  | v => toS1 v
theorem toS_den (ρ : Env) (β : Nat → Nat × Nat) (v : Value) : (toS v).den ρ β = v := by
  cases v <;> simp [toS, toS1_den, SV.den, denL_map, Function.comp_def]

/-! ### memory -/

inductive SBlk where
  | gone
  | cells (l : List SV) (elem : TypeId) (opn : Option Nat)
  deriving Inhabited

structure St where
  bl : List SBlk
  kn : List (E × Bool)

def blkOk (ρ : Env) (β : Nat → Nat × Nat) (cap : Nat) : SBlk → Option Obj → Prop
  | .gone, _ => True
  | .cells l e o, ob => ∃ tl : List Value, ob = some (.cells (SV.denL ρ β l ++ tl).toArray e (0, 0)) ∧ (o = none → tl = []) ∧
      (∀ sz, o = some sz → (SV.denL ρ β l ++ tl).length = cap * sz ∧ cap ≤ maxLen)

def live (s : St) (j : Nat) : Prop := ∃ l e o, s.bl[j]? = some (.cells l e o)

structure Sat (ρ : Env) (β : Nat → Nat × Nat) (s : St) (w : World) : Prop where
  blk : ∀ j b, s.bl[j]? = some b → blkOk ρ β (β j).2 b (w.heap[(β j).1]?)
  inj : ∀ i j, live s i → live s j → (β i).1 = (β j).1 → i = j
  kn : ∀ e b, (e, b) ∈ s.kn → (e.ev ρ != 0) = b

structure Ext (s s' : St) (β β' : Nat → Nat × Nat) (w w' : World) : Prop where
  ag : ∀ j, j < s.bl.length → β' j = β j
  old : ∀ j, j < s.bl.length → live s' j → live s j
  fresh : ∀ j, s.bl.length ≤ j → live s' j → w.heap.size ≤ (β' j).1 ∨ ∃ i, live s i ∧ (β i).1 = (β' j).1
  size : w.heap.size ≤ w'.heap.size
  fr : ∀ b, b < w.heap.size → (∀ j, live s j → (β j).1 ≠ b) → w'.heap[b]? = w.heap[b]?
  len : s.bl.length ≤ s'.bl.length
  os : w'.os = w.os
  tape : w'.tape = w.tape
  output : w'.output = w.output

theorem live_lt {s : St} {j : Nat} (h : live s j) : j < s.bl.length := by
  obtain ⟨l, e, o, h⟩ := h
  exact (List.getElem?_eq_some_iff.1 h).1

theorem Sat.lt {ρ : Env} {β : Nat → Nat × Nat} {s : St} {w : World} (h : Sat ρ β s w) {j : Nat} (hl : live s j) : (β j).1 < w.heap.size := by
  obtain ⟨l, e, o, hj⟩ := hl
  obtain ⟨tl, ht, _, _⟩ := h.blk j _ hj
  exact (Array.getElem?_eq_some_iff.1 ht).1

theorem Ext.refl (s : St) (β : Nat → Nat × Nat) (w : World) : Ext s s β β w w :=
  ⟨fun _ _ => rfl, fun _ _ h => h, fun j hj h => absurd (live_lt h) (by omega), Nat.le_refl _, fun _ _ _ => rfl, Nat.le_refl _, rfl, rfl, rfl⟩

theorem Ext.trans {s s1 s2 : St} {β β1 β2 : Nat → Nat × Nat} {w w1 w2 : World} (h : Ext s s1 β β1 w w1) (k : Ext s1 s2 β1 β2 w1 w2) : Ext s s2 β β2 w w2 where
  ag j hj := (k.ag j (Nat.lt_of_lt_of_le hj h.len)).trans (h.ag j hj)
  old j hj hl := h.old j hj (k.old j (Nat.lt_of_lt_of_le hj h.len) hl)
  fresh j hj hl := by
    rcases Nat.lt_or_ge j s1.bl.length with h1 | h1
    · rw [k.ag j h1]; exact h.fresh j hj (k.old j h1 hl)
    · rcases k.fresh j h1 hl with h2 | ⟨i, hi, he⟩
      · exact .inl (Nat.le_trans h.size h2)
      · rcases Nat.lt_or_ge i s.bl.length with h3 | h3
        · exact .inr ⟨i, h.old i h3 hi, by rw [← h.ag i h3]; exact he⟩
        · rw [← he]; exact h.fresh i h3 hi
  size := Nat.le_trans h.size k.size
  fr b hb hn := (k.fr b (Nat.lt_of_lt_of_le hb h.size) (fun j hl e => by
    rcases Nat.lt_or_ge j s.bl.length with h1 | h1
    · exact hn j (h.old j h1 hl) (by rw [← h.ag j h1]; exact e)
    · rcases h.fresh j h1 hl with h2 | ⟨i, hi, he⟩
      · omega
      · exact hn i hi (he.trans e))).trans (h.fr b hb hn)
  len := Nat.le_trans h.len k.len
  os := k.os.trans h.os
  tape := k.tape.trans h.tape
  output := k.output.trans h.output

/-! ### trees -/

inductive T (α : Type) where
  | leaf (a : α)
  | br (e : E) (t f : T α)
  | bad (n : Nat)
  | new (i : Nat) (e : E) (t : T α)

def T.sel {α : Type} (ρ : Env) : T α → Option α
  | .leaf a => some a
  | .br e t f => if e.ev ρ ≠ 0 then t.sel ρ else f.sel ρ
  | .bad _ => none
  | .new i e t => if ρ.i i = e.ev ρ then t.sel ρ else none

def T.bind {α γ : Type} : T α → (α → T γ) → T γ
  | .leaf a, f => f a
  | .br e t u, f => .br e (t.bind f) (u.bind f)
  | .bad n, _ => .bad n
  | .new i e t, f => .new i e (t.bind f)

theorem T.sel_bind {α γ : Type} (ρ : Env) (t : T α) (f : α → T γ) : (t.bind f).sel ρ = (t.sel ρ).bind fun a => (f a).sel ρ := by
  induction t with
  | leaf a => rfl
  | br e t u ht hu => simp only [T.bind, T.sel]; split <;> assumption
  | bad n => rfl
  | new i e t ht => simp only [T.bind, T.sel]; split <;> first | assumption | rfl

theorem T.sel_bind_some {α γ : Type} {ρ : Env} {t : T α} {f : α → T γ} {c : γ} (h : (t.bind f).sel ρ = some c) : ∃ a, t.sel ρ = some a ∧ (f a).sel ρ = some c := by
  rw [T.sel_bind] at h
  exact Option.bind_eq_some_iff.1 h

/-! ### loads, stores, new blocks -/

def St.cell (s : St) (j off : Nat) : Option SV :=
  match s.bl[j]? with
  | some (.cells l _ _) => l[off]?
  | _ => none

theorem Sat.cell {ρ : Env} {β : Nat → Nat × Nat} {s : St} {w : World} (h : Sat ρ β s w) {j off : Nat} {x : SV} (hx : s.cell j off = some x) :
    w.cell? ⟨(β j).1, off, none⟩ = some (x.den ρ β) := by
  unfold St.cell at hx
  split at hx
  · rename_i l e o hj
    obtain ⟨tl, ht, _⟩ := h.blk j _ hj
    simp only [World.cell?, ht]
    have hlt : off < (SV.denL ρ β l).length := by simpa using (List.getElem?_eq_some_iff.1 hx).1
    simp only [Option.isSome_none, Bool.false_eq_true, if_false, List.getElem?_toArray]
    rw [List.getElem?_append_left hlt, denL_get, hx]
    rfl
  · cases hx

def St.cellN (s : St) (j : Nat) : Nat → Nat → Option (List SV)
  | _, 0 => some []
  | off, n + 1 => match s.cell j off, s.cellN j (off + 1) n with
    | some x, some l => some (x :: l)
    | _, _ => none

theorem Sat.cellN {ρ : Env} {β : Nat → Nat × Nat} {s : St} {w : World} (h : Sat ρ β s w) {j : Nat} : ∀ (n off : Nat) {l : List SV}, s.cellN j off n = some l →
    l.length = n ∧ ∀ i x, l[i]? = some x → w.cell? ⟨(β j).1, off + i, none⟩ = some (x.den ρ β)
  | 0, off, l, hl => by simp [St.cellN] at hl; subst hl; simp
  | n + 1, off, l, hl => by
    simp only [St.cellN] at hl
    split at hl
    · rename_i x m hx hm
      cases hl
      obtain ⟨h1, h2⟩ := Sat.cellN h n (off + 1) hm
      refine ⟨by simp [h1], fun i y hy => ?_⟩
      cases i with
      | zero => simp at hy; subst hy; exact h.cell hx
      | succ i => simp at hy; have := h2 i y hy; rwa [Nat.add_assoc, Nat.add_comm 1 i] at this
    · cases hl

def St.setCell (s : St) (j off : Nat) (x : SV) : Option St :=
  match s.bl[j]? with
  | some (.cells l e o) => if off < l.length && x.one then some { s with bl := s.bl.set j (.cells (l.set off x) e o) } else none
  | _ => none

theorem live_set {s : St} {j : Nat} {l e o l' e' o'} (h : s.bl[j]? = some (.cells l e o)) (i : Nat) :
    live { s with bl := s.bl.set j (.cells l' e' o') } i ↔ live s i := by
  unfold live
  by_cases hij : j = i
  · subst hij
    have := (List.getElem?_eq_some_iff.1 h).1
    constructor
    · intro _; exact ⟨_, _, _, h⟩
    · intro _; exact ⟨l', e', o', by simp [this]⟩
  · simp [List.getElem?_set_ne hij]

theorem St.setCell_ok {cx : Cx} {ρ : Env} (hρ : EnvOk cx ρ) {β : Nat → Nat × Nat} {s s' : St} {w : World} (h : Sat ρ β s w) {j off : Nat} {x : SV} (hs : s.setCell j off x = some s') :
    (∃ u, w.cell? ⟨(β j).1, off, none⟩ = some u) ∧ w.frozen? ⟨(β j).1, off, none⟩ = false ∧ oneV (x.den ρ β) = true ∧
      Sat ρ β s' (w.setCell ⟨(β j).1, off, none⟩ (x.den ρ β)) ∧ Ext s s' β β w (w.setCell ⟨(β j).1, off, none⟩ (x.den ρ β)) := by
  unfold St.setCell at hs
  split at hs
  case h_2 => cases hs
  rename_i l e o hj
  split at hs
  case isFalse => cases hs
  rename_i hc
  simp only [Bool.and_eq_true, decide_eq_true_eq] at hc
  obtain ⟨hlt, hone⟩ := hc
  cases hs
  have hlive : live s j := ⟨_, _, _, hj⟩
  obtain ⟨tl, ht, htl, hcap⟩ := h.blk j _ hj
  have hone' := SV.one_den hρ β hone
  have hheap : ∀ b, b ≠ (β j).1 → (w.setCell ⟨(β j).1, off, none⟩ (x.den ρ β)).heap[b]? = w.heap[b]? := by
    intro b hb
    simp only [World.setCell, Array.getElem?_modify]
    rw [if_neg (by omega)]
  have hj' : (w.setCell ⟨(β j).1, off, none⟩ (x.den ρ β)).heap[(β j).1]? = some (.cells (SV.denL ρ β (l.set off x) ++ tl).toArray e (0, 0)) := by
    simp only [World.setCell, Array.getElem?_modify, ht]
    simp [denL_set, List.set_append_left, hlt]
  have hset : s.bl.length = (s.bl.set j (.cells (l.set off x) e o)).length := by simp
  refine ⟨?_, ?_, hone', ⟨?_, ?_, h.kn⟩, ?_⟩
  · simp only [World.cell?, ht]
    simp [List.getElem?_append_left, hlt]
  · simp [World.frozen?, ht]
  · intro i b hi
    by_cases hij : j = i
    · subst hij
      have hlt' := (List.getElem?_eq_some_iff.1 hj).1
      simp [hlt'] at hi
      subst hi
      rw [hj']
      exact ⟨tl, rfl, htl, fun sz hsz => by have := hcap sz hsz; simpa using this⟩
    · rw [List.getElem?_set_ne hij] at hi
      have hb := h.blk i b hi
      cases b with
      | gone => trivial
      | cells l2 e2 o2 =>
        rw [hheap _ (fun e => hij (h.inj _ _ hlive ⟨_, _, _, hi⟩ e.symm))]
        exact hb
  · intro a b ha hb
    exact h.inj a b ((live_set hj a).1 ha) ((live_set hj b).1 hb)
  · refine ⟨fun _ _ => rfl, fun i _ hl => (live_set hj i).1 hl, ?_, by simp, ?_, by simp, rfl, rfl, rfl⟩
    · intro i hi hl
      have := live_lt ((live_set hj i).1 hl)
      omega
    · intro b hb hn
      exact hheap b (fun e => hn j hlive e.symm)

/-- a new block -/
def St.push (s : St) (l : List SV) (e : TypeId) : St := { s with bl := s.bl ++ [.cells l e none] }
def bnew (β : Nat → Nat × Nat) (n m q : Nat) : Nat → Nat × Nat := fun j => if j = n then (m, q) else β j

theorem live_push {s : St} {l e} {j : Nat} : live (s.push l e) j ↔ (live s j ∨ j = s.bl.length) := by
  unfold live St.push
  simp only [List.getElem?_append]
  split
  · rename_i h
    constructor
    · exact .inl
    · rintro (h | rfl)
      · exact h
      · omega
  · rename_i h
    constructor
    · rintro ⟨l, e, o, h'⟩
      have := (List.getElem?_eq_some_iff.1 h').1
      simp at this
      exact .inr (by omega)
    · rintro (h' | rfl)
      · exact absurd (live_lt h') h
      · exact ⟨l, e, none, by simp⟩

def SBlk.sc (n : Nat) : SBlk → Bool
  | .gone => true
  | .cells l _ _ => SV.scL n l
def St.sc (s : St) (n : Nat) : Bool := s.bl.all (·.sc n)

theorem blkOk_sc {ρ : Env} {β β' : Nat → Nat × Nat} {n : Nat} (hb : ∀ j, j < n → β' j = β j) {b : SBlk} (hs : b.sc n = true) {q : Nat} {o : Option Obj} (h : blkOk ρ β q b o) : blkOk ρ β' q b o := by
  cases b with
  | gone => trivial
  | cells l e op =>
    simp only [SBlk.sc] at hs
    obtain ⟨tl, h1, h2, h3⟩ := h
    exact ⟨tl, by rw [SV.denL_sc hb l hs]; exact h1, h2, fun sz hsz => by rw [SV.denL_sc hb l hs]; exact h3 sz hsz⟩

theorem Sat.push {ρ : Env} {β : Nat → Nat × Nat} {s : St} {w : World} (h : Sat ρ β s w) {l : List SV} {e : TypeId} (hsc : s.sc s.bl.length = true) (hl : SV.scL s.bl.length l = true) :
    Sat ρ (bnew β s.bl.length w.heap.size 0) (s.push l e) (w.alloc (.cells (SV.denL ρ β l).toArray e)) ∧
      Ext s (s.push l e) β (bnew β s.bl.length w.heap.size 0) w (w.alloc (.cells (SV.denL ρ β l).toArray e)) := by
  have hag : ∀ j, j < s.bl.length → bnew β s.bl.length w.heap.size 0 j = β j := fun j hj => by unfold bnew; rw [if_neg (by omega)]
  have hold : ∀ b, b < w.heap.size → (w.alloc (.cells (SV.denL ρ β l).toArray e)).heap[b]? = w.heap[b]? := by
    intro b hb
    show (w.heap.push _)[b]? = _
    rw [Array.getElem?_push, if_neg (by omega)]
  refine ⟨⟨?_, ?_, h.kn⟩, hag, ?_, ?_, by simp, fun b hb _ => hold b hb, by simp [St.push], rfl, rfl, rfl⟩
  · intro j b hj
    unfold St.push at hj
    simp only [List.getElem?_append] at hj
    split at hj
    · rename_i hlt
      rw [hag j hlt]
      have hbs : b.sc s.bl.length = true := by
        have := List.all_eq_true.1 hsc b (List.mem_of_getElem? hj)
        exact this
      have hb := blkOk_sc hag hbs (h.blk j b hj)
      cases b with
      | gone => trivial
      | cells l2 e2 o2 => rw [hold _ (h.lt ⟨_, _, _, hj⟩)]; exact hb
    · rename_i hge
      have := (List.getElem?_eq_some_iff.1 hj).1
      simp at this
      have : j = s.bl.length := by omega
      subst this
      simp at hj
      subst hj
      refine ⟨[], ?_, fun _ => rfl, fun _ h => by cases h⟩
      rw [SV.denL_sc hag l hl]
      show (w.heap.push _)[(bnew β s.bl.length w.heap.size 0 s.bl.length).1]? = _
      simp [bnew]
  · intro a b ha hb he
    unfold bnew at he
    rcases live_push.1 ha with ha | rfl <;> rcases live_push.1 hb with hb | rfl
    · rw [if_neg (by have := live_lt ha; omega), if_neg (by have := live_lt hb; omega)] at he
      exact h.inj a b ha hb he
    · rw [if_neg (by have := live_lt ha; omega), if_pos rfl] at he
      have := h.lt ha; omega
    · rw [if_pos rfl, if_neg (by have := live_lt hb; omega)] at he
      have := h.lt hb; omega
    · rfl
  · intro j hj hl
    rcases live_push.1 hl with hl | rfl
    · exact hl
    · omega
  · intro j hj hl
    rcases live_push.1 hl with hl | rfl
    · have := live_lt hl; omega
    · exact .inl (by simp [bnew])

/-- less is known -/
theorem Sat.kn_cons {ρ : Env} {β : Nat → Nat × Nat} {s : St} {w : World} (h : Sat ρ β s w) {e : E} {b : Bool} (he : (e.ev ρ != 0) = b) : Sat ρ β { s with kn := (e, b) :: s.kn } w :=
  ⟨h.blk, h.inj, fun e' b' hm => by
    rcases List.mem_cons.1 hm with hm | hm
    · cases hm; exact he
    · exact h.kn _ _ hm⟩

end Go.Eng
