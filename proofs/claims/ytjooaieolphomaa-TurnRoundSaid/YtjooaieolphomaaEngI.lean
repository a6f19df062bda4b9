/-
  A symbolic executor, part I: regions that draw their order.
-/
import Derived.Test.YtjooaieolphomaaEngH
import Derived.OrdersHeld
set_option linter.unusedVariables false
set_option linter.unusedSimpArgs false
namespace Go.Eng

/-! ### a value that does not name a block -/

mutual
def SV.av (n : Nat) : SV → Bool
  | .ptr j _ => j != n
  | .slice j _ _ _ => j != n
  | .func _ a c => SV.avL n a && SV.avL n c
  | .iface _ x => x.av n
  | .agg l => SV.avL n l
  | .tup l => SV.avL n l
  | _ => true
def SV.avL (n : Nat) : List SV → Bool
  | [] => true
  | x :: l => x.av n && SV.avL n l
end

mutual
theorem SV.den_av {ρ : Env} {β β' : Nat → Nat × Nat} {n : Nat} (hb : ∀ j, j ≠ n → β' j = β j) : ∀ (s : SV), s.av n = true → s.den ρ β' = s.den ρ β
  | .int _ _, _ => rfl
  | .bool _, _ => rfl
  | .ptr j off, h => by simp [SV.av] at h; simp [SV.den, hb j h]
  | .lit _, _ => rfl
  | .any _, _ => rfl
  | .slice j off len cap, h => by simp [SV.av] at h; simp [SV.den, hb j h]
  | .func fn a c, h => by simp [SV.av] at h; simp [SV.den, SV.denL_av hb a h.1, SV.denL_av hb c h.2]
  | .iface t x, h => by simp [SV.av] at h; simp [SV.den, SV.den_av hb x h]
  | .agg l, h => by simp [SV.av] at h; simp [SV.den, SV.denL_av hb l h]
  | .tup l, h => by simp [SV.av] at h; simp [SV.den, SV.denL_av hb l h]
theorem SV.denL_av {ρ : Env} {β β' : Nat → Nat × Nat} {n : Nat} (hb : ∀ j, j ≠ n → β' j = β j) : ∀ (l : List SV), SV.avL n l = true → SV.denL ρ β' l = SV.denL ρ β l
  | [], _ => rfl
  | x :: l, h => by simp [SV.avL] at h; simp [SV.denL, SV.den_av hb x h.1, SV.denL_av hb l h.2]
end

def SBlk.av (n : Nat) : SBlk → Bool
  | .gone => true
  | .cells l _ _ => SV.avL n l

theorem blkOk_av {ρ : Env} {β β' : Nat → Nat × Nat} {n : Nat} (hb : ∀ j, j ≠ n → β' j = β j) {b : SBlk} (hs : b.av n = true) {q : Nat} {o : Option Obj} (h : blkOk ρ β q b o) : blkOk ρ β' q b o := by
  cases b with
  | gone => trivial
  | cells l e op =>
    simp only [SBlk.av] at hs
    obtain ⟨tl, h1, h2, h3⟩ := h
    exact ⟨tl, by rw [SV.denL_av hb l hs]; exact h1, h2, fun sz hsz => by rw [SV.denL_av hb l hs]; exact h3 sz hsz⟩

/-! ### a new block at a place that was kept for it -/

def St.isGone (s : St) (j : Nat) : Bool := match s.bl[j]? with
  | some .gone => true
  | _ => false

def reviveS (s : St) (j : Nat) (l : List SV) (e : TypeId) : Option St :=
  if s.isGone j && s.bl.all (·.av j) && SV.avL j l then some { s with bl := s.bl.set j (.cells l e none) } else none

def bset (β : Nat → Nat × Nat) (n m : Nat) : Nat → Nat × Nat := fun j => if j = n then (m, 0) else β j

theorem reviveS_ok {ρ : Env} {β β0 : Nat → Nat × Nat} {s s' s0 : St} {w w0 : World} {j : Nat} {l : List SV} {e : TypeId} (hs : Sat ρ β s w) (hx : Ext s0 s β0 β w0 w) (hj : s0.bl.length ≤ j)
    (h : reviveS s j l e = some s') :
    Sat ρ (bset β j w.heap.size) s' (w.alloc (.cells (SV.denL ρ β l).toArray e)) ∧ Ext s0 s' β0 (bset β j w.heap.size) w0 (w.alloc (.cells (SV.denL ρ β l).toArray e)) ∧
      (∀ i, i ≠ j → bset β j w.heap.size i = β i) ∧ s'.bl.length = s.bl.length ∧ s'.kn = s.kn := by
  unfold reviveS at h
  split at h <;> cases h
  rename_i hc
  simp only [Bool.and_eq_true] at hc
  obtain ⟨⟨hg, hav⟩, hl⟩ := hc
  have hag : ∀ i, i ≠ j → bset β j w.heap.size i = β i := fun i hi => by unfold bset; rw [if_neg hi]
  have hgj : s.bl[j]? = some .gone := by
    unfold St.isGone at hg
    split at hg
    · assumption
    · cases hg
  have hlt := (List.getElem?_eq_some_iff.1 hgj).1
  have hold : ∀ b, b < w.heap.size → (w.alloc (.cells (SV.denL ρ β l).toArray e)).heap[b]? = w.heap[b]? := by
    intro b hb
    show (w.heap.push _)[b]? = _
    rw [Array.getElem?_push, if_neg (by omega)]
  have hlive : ∀ i, live { s with bl := s.bl.set j (.cells l e none) } i → live s i ∨ i = j := by
    intro i hi
    by_cases hij : i = j
    · exact .inr hij
    · obtain ⟨l', e', o', hi⟩ := hi
      rw [List.getElem?_set_ne (Ne.symm hij)] at hi
      exact .inl ⟨l', e', o', hi⟩
  refine ⟨⟨?_, ?_, hs.kn⟩, ?_, hag, by simp, rfl⟩
  · intro i b hi
    by_cases hij : i = j
    · subst hij
      simp [hlt] at hi
      subst hi
      refine ⟨[], ?_, fun _ => rfl, fun _ h => by cases h⟩
      rw [SV.denL_av hag l hl]
      show (w.heap.push _)[(bset β i w.heap.size i).1]? = _
      simp [bset]
    · rw [List.getElem?_set_ne (Ne.symm hij)] at hi
      rw [hag i hij]
      have hb := blkOk_av hag (List.all_eq_true.1 hav b (List.mem_of_getElem? hi)) (hs.blk i b hi)
      cases b with
      | gone => trivial
      | cells l2 e2 o2 => rw [hold _ (hs.lt ⟨_, _, _, hi⟩)]; exact hb
  · intro a b ha hb he
    by_cases ha' : a = j <;> by_cases hb' : b = j
    · rw [ha', hb']
    · rcases hlive b hb with hb | rfl
      · rw [ha', hag b hb'] at he
        have := hs.lt hb
        simp [bset] at he
        omega
      · exact absurd rfl hb'
    · rcases hlive a ha with ha | rfl
      · rw [hb', hag a ha'] at he
        have := hs.lt ha
        simp [bset] at he
        omega
      · exact absurd rfl ha'
    · rw [hag a ha', hag b hb'] at he
      rcases hlive a ha with ha | rfl
      · rcases hlive b hb with hb | rfl
        · exact hs.inj a b ha hb he
        · exact absurd rfl hb'
      · exact absurd rfl ha'
  · refine ⟨fun i hi => (hag i (by omega)).trans (hx.ag i hi), fun i hi hl' => ?_, fun i hi hl' => ?_, by simp only [World.size_alloc]; have := hx.size; omega,
      fun b hb hn => (hold b (by have := hx.size; omega)).trans (hx.fr b hb hn), by simp [hx.len], hx.os, hx.tape, hx.output⟩
    · rcases hlive i hl' with hl' | rfl
      · exact hx.old i hi hl'
      · omega
    · rcases hlive i hl' with hl' | rfl
      · by_cases hij : i = j
        · subst hij
          exact .inl (by simp [bset]; exact hx.size)
        · rw [hag i hij]; exact hx.fresh i hi hl'
      · exact .inl (by simp [bset]; exact hx.size)

/-! ### what stays -/

/-- the blocks of the beginning that are now as they were then, and that stay so: s0 masks the others -/
def SBlk.beq : SBlk → SBlk → Bool
  | .gone, .gone => true
  | .cells l e o, .cells l' e' o' => SV.beqL l l' && e == e' && decide (o = o')
  | _, _ => false
theorem SBlk.eq_of_beq {a b : SBlk} (h : a.beq b = true) : a = b := by
  cases a <;> cases b <;> simp_all [SBlk.beq]
  exact SV.eqL_of_beq _ _ h.1.1

def stays : List SBlk → List SBlk → Bool
  | [], _ => true
  | .gone :: l, _ :: m => stays l m
  | b :: l, c :: m => b.beq c && stays l m
  | _ :: _, [] => false

theorem stays_ok : ∀ {l m : List SBlk}, stays l m = true → ∀ (j : Nat) (b : SBlk), l[j]? = some b → b = SBlk.gone ∨ m[j]? = some b
  | [], m, _, j, b, hj => by simp at hj
  | .gone :: l, c :: m, h, 0, b, hj => by simp at hj; exact .inl hj.symm
  | .gone :: l, c :: m, h, j + 1, b, hj => by
    simp only [stays] at h
    simpa using stays_ok h j b (by simpa using hj)
  | .cells a e o :: l, c :: m, h, 0, b, hj => by
    simp only [stays, Bool.and_eq_true] at h
    simp at hj
    right
    rw [← hj, SBlk.eq_of_beq h.1]; simp
  | .cells a e o :: l, c :: m, h, j + 1, b, hj => by
    simp only [stays, Bool.and_eq_true] at h
    simpa using stays_ok h.2 j b (by simpa using hj)
  | .gone :: l, [], h, _, _, _ => by simp [stays] at h
  | .cells _ _ _ :: l, [], h, _, _, _ => by simp [stays] at h

/-- mask: what is known of less blocks -/
theorem Sat.mask {ρ : Env} {β : Nat → Nat × Nat} {s s1 : St} {w : World} (h : Sat ρ β s w) (hb : ∀ (j : Nat) (b : SBlk), s1.bl[j]? = some b → b = SBlk.gone ∨ s.bl[j]? = some b) (hk : ∀ e b, (e, b) ∈ s1.kn → (e.ev ρ != 0) = b) : Sat ρ β s1 w := by
  have hl : ∀ j, live s1 j → live s j := by
    rintro j ⟨l, e, o, hj⟩
    rcases hb j _ hj with h | h
    · cases h
    · exact ⟨l, e, o, h⟩
  exact ⟨fun j b hj => by
    rcases hb j b hj with rfl | hj
    · trivial
    · exact h.blk j b hj, fun a b ha hb he => h.inj a b (hl a ha) (hl b hb) he, hk⟩

/-- the same, under other names of what is not named -/
theorem Sat.rename {ρ : Env} {β β' : Nat → Nat × Nat} {s : St} {w : World} (h : Sat ρ β s w) {n : Nat} (hn : s.bl.length ≤ n) (hag : ∀ j, j < n → β' j = β j) (hsc : s.sc n = true) : Sat ρ β' s w :=
  ⟨fun j b hj => by
    have := (List.getElem?_eq_some_iff.1 hj).1
    rw [hag j (by omega)]
    exact blkOk_sc hag (List.all_eq_true.1 hsc b (List.mem_of_getElem? hj)) (h.blk j b hj),
   fun a b ha hb he => by
    have h1 := live_lt ha
    have h2 := live_lt hb
    rw [hag a (by omega), hag b (by omega)] at he
    exact h.inj a b ha hb he, h.kn⟩

/-! ### the walk through all orders -/

inductive X where
  | ok (tm : List SV) (s : St)
  | need (e : E)
  | bad (n : Nat)

def blBeq : List SBlk → List SBlk → Bool
  | [], [] => true
  | a :: l, b :: m => a.beq b && blBeq l m
  | _, _ => false
theorem bl_of_beq : ∀ {l m : List SBlk}, blBeq l m = true → l = m
  | [], [], _ => rfl
  | a :: l, b :: m, h => by
    simp only [blBeq, Bool.and_eq_true] at h
    rw [SBlk.eq_of_beq h.1, bl_of_beq h.2]
  | [], _ :: _, h => by cases h
  | _ :: _, [], h => by cases h

def X.join : X → X → X
  | .ok tm s, .ok tm' s' => if SV.beqL tm tm' && blBeq s.bl s'.bl then .ok tm s else .bad 50
  | .need e, _ => .need e
  | .ok _ _, .need e => .need e
  | .bad n, _ => .bad n
  | _, .bad n => .bad n

structure D where
  cx : Cx
  cf : CF
  ex : XF
  ops : Array Oper
  s0 : St        -- what stays, of the beginning
  n0 : Nat

def isAlloc : Op → Bool
  | .alloc _ | .box _ _ | .buildSlice _ _ _ => true
  | _ => false
/-- how many operations ahead of number i make a box -/
def allocsTo (ops : Array Oper) (i : Nat) : Nat := ((ops.toList.take i).filter fun o => isAlloc o.op).length

/-- a guard, decided: yes, no, or: a condition is needed -/
inductive Gd where
  | yes | no | need (e : E) | unk
def gdS (ops : Array Oper) (tm : List SV) (s : St) (o : Oper) : Gd :=
  match wantS ops tm o with
  | .yes => .yes
  | .no => .no
  | .unk => .unk
  | .on e want => match e with
    | .c n => if (n != 0) == want then .yes else .no
    | e => match knows s e with
      | some b => if b == want then .yes else .no
      | none => .need e

def D.step (d : D) (i : Nat) (tm : List SV) (s : St) : X :=
  match d.ops[i]? with
  | none => .bad 51
  | some o =>
    match gdS d.ops tm s o with
    | .unk => .bad 52
    | .need e => .need e
    | .no => .ok (putS tm o.dst undefS) s
    | .yes =>
      let j := d.n0 + allocsTo d.ops i
      let mk (el : TypeId) (l : List SV) : X := match reviveS s j l el with
        | some s1 => if SV.avL j tm && stays d.s0.bl s1.bl then .ok (putS tm o.dst (.ptr j 0)) s1 else .bad 53
        | none => .bad 54
      match o.op with
      | .alloc el => match zeroS d.cx el with
        | some z => match z.cells with
          | some l => mk el l
          | none => .bad 55
        | none => .bad 55
      | .box el x => match (evO tm x).cells with
        | some l => mk el l
        | none => .bad 56
      | .buildSlice t len parts => match rowC d.cx t len (parts.toList.map fun p => (p.1, evO tm p.2)) with
        | some (el, l) => match reviveS s j l el with
          | some s1 => if SV.avL j tm && stays d.s0.bl s1.bl then .ok (putS tm o.dst (.slice j 0 len (some len))) s1 else .bad 53
          | none => .bad 54
        | none => .bad 59
      | _ => match opC d.cx d.cf d.ex tm s o with
        | .leaf r => if (!chg o.op || SV.scL s.bl.length tm) && stays d.s0.bl r.2.bl then .ok (putS tm o.dst (r.1.ren d.cx d.s0.kn)) r.2 else .bad 57
        | .new _ _ _ => .bad 64
        | .br e _ _ => .need e
        | .bad n => .bad n

/-- an operation that may be taken first: its value -/
def D.take (d : D) (listed : Array Bool) (i : Nat) (tm : List SV) : Option SV :=
  match d.ops[i]? with
  | none => none
  | some o =>
    match gdS d.ops tm d.s0 o with
    | .no => if Region.free .any d.ops listed i then some undefS else none
    | .yes => if valOp o.op then
        match opS d.cx tm d.s0 o with
        | .leaf r => if Region.free .any d.ops listed i then some (r.1.ren d.cx d.s0.kn) else none
        | _ => none
      else none
    | _ => none

def D.takeOne (d : D) (listed : Array Bool) (tm : List SV) : List Nat → Option (Nat × SV)
  | [] => none
  | i :: l => match d.take listed i tm with
    | some v => some (i, v)
    | none => d.takeOne listed tm l

def dstOf (ops : Array Oper) (i : Nat) : Option Tmp := (ops[i]?).bind (·.dst)

def D.explore (d : D) : Nat → Array Bool → List SV → St → X
  | 0, listed, tm, s => match Region.ready .any d.ops listed with
    | [] => .ok tm s
    | _ => .bad 58
  | fuel + 1, listed, tm, s =>
    match Region.ready .any d.ops listed with
    | [] => .ok tm s
    | i :: rest =>
      match d.takeOne listed tm (i :: rest) with
      | some (k, v) => d.explore fuel (listed.setIfInBounds k true) (putS tm (dstOf d.ops k) v) s
      | none =>
        let one (k : Nat) : X := match d.step k tm s with
          | .ok tm1 s1 => d.explore fuel (listed.setIfInBounds k true) tm1 s1
          | r => r
        rest.foldl (fun acc k => acc.join (one k)) (one i)

theorem X.join_ok {a b : X} {tm : List SV} {s : St} (h : a.join b = .ok tm s) : a = .ok tm s ∧ ∃ s', b = .ok tm s' ∧ s'.bl = s.bl := by
  unfold X.join at h
  split at h
  · split at h <;> cases h
    rename_i hc
    simp only [Bool.and_eq_true] at hc
    exact ⟨rfl, _, by rw [SV.eqL_of_beq _ _ hc.1], (bl_of_beq hc.2).symm⟩
  all_goals cases h

theorem foldl_join {one : Nat → X} : ∀ (l : List Nat) (acc : X) {tm : List SV} {s : St}, l.foldl (fun a k => a.join (one k)) acc = .ok tm s → acc = .ok tm s ∧ ∀ k ∈ l, ∃ s', one k = .ok tm s' ∧ s'.bl = s.bl
  | [], acc, tm, s, h => ⟨h, fun k hk => by cases hk⟩
  | k :: l, acc, tm, s, h => by
    obtain ⟨h1, h2⟩ := foldl_join l (acc.join (one k)) h
    obtain ⟨h3, h4⟩ := X.join_ok h1
    exact ⟨h3, fun j hj => by
      rcases List.mem_cons.1 hj with rfl | hj
      · exact h4
      · exact h2 j hj⟩

/-- where the walk stands -/
structure Cur (d : D) (ρ : Env) (β0 : Nat → Nat × Nat) (s00 : St) (w0 : World) (ds : List Deferred) (tm : List SV) (s : St) (a : Act) (w : World) : Prop where
  ex : ∃ β, a.tmps = (SV.denL ρ β tm).toArray ∧ Sat ρ β s w ∧ Ext s00 s β0 β w0 w
  ds : a.defers = ds
  st : Sat ρ β0 d.s0 w

structure DOk (d : D) (ρ : Env) (β0 : Nat → Nat × Nat) (s00 : St) : Prop where
  hcx : CxOk d.cx
  hcf : CallOk d.cx d.cf
  hex : XOk d.cx d.ex
  hρ : EnvOk d.cx ρ
  len : s00.bl.length = d.n0
  sc : d.s0.sc d.n0 = true
  le : d.s0.bl.length ≤ d.n0
  kn : ∀ e b, (e, b) ∈ d.s0.kn → (e.ev ρ != 0) = b
  inj : ∀ i j, live d.s0 i → live d.s0 j → (β0 i).1 = (β0 j).1 → i = j

section
variable {d : D} {ρ : Env} {β0 : Nat → Nat × Nat} {s00 : St} {w0 : World} {ds : List Deferred}

theorem gdS_ok {ops : Array Oper} {tm : List SV} {s : St} {o : Oper} {a : Act} {β : Nat → Nat × Nat} {w : World} (ht : a.tmps = (SV.denL ρ β tm).toArray) (hs : Sat ρ β s w) :
    (gdS ops tm s o = .yes → Region.wanted o (yielded ops a.tmps) = true) ∧ (gdS ops tm s o = .no → Region.wanted o (yielded ops a.tmps) = false) := by
  have hw := wantS_ok (ops := ops) (o := o) ht
  unfold gdS
  cases hwd : wantS ops tm o with
  | yes => rw [hwd] at hw; exact ⟨fun _ => hw, fun h => (by cases h)⟩
  | no => rw [hwd] at hw; exact ⟨fun h => (by cases h), fun _ => hw⟩
  | unk => exact ⟨fun h => (by cases h), fun h => (by cases h)⟩
  | on e want =>
    rw [hwd] at hw
    simp only at hw ⊢
    split
    · rename_i n
      split
      · rename_i h; exact ⟨fun _ => by rw [hw]; exact h, fun h => (by cases h)⟩
      · rename_i h; exact ⟨fun h => (by cases h), fun _ => by rw [hw]; simpa [E.ev] using h⟩
    · split
      · rename_i b hb
        have hk := knows_ok hs hb
        split
        · rename_i h; exact ⟨fun _ => by rw [hw, hk]; exact h, fun h => (by cases h)⟩
        · rename_i h; exact ⟨fun h => (by cases h), fun _ => by rw [hw, hk]; simpa using h⟩
      · exact ⟨fun h => (by cases h), fun h => (by cases h)⟩

theorem stays_sat (hd : DOk d ρ β0 s00) {β : Nat → Nat × Nat} {s : St} {w : World} (hs : Sat ρ β s w) (hst : stays d.s0.bl s.bl = true) (hx : ∀ j, j < d.n0 → β j = β0 j) : Sat ρ β0 d.s0 w := by
  have h1 := hs.mask (s1 := d.s0) (stays_ok hst) hd.kn
  exact h1.rename hd.le (fun j hj => (hx j hj).symm) hd.sc

theorem step_ok (hd : DOk d ρ β0 s00) {i : Nat} {tm tm1 : List SV} {s s1 : St} {a : Act} {w : World} (hc : Cur d ρ β0 s00 w0 ds tm s a w) (h : d.step i tm s = .ok tm1 s1)
    {K : Act → World → Prop} {Q : Exit → Act → World → Prop} (hK : ∀ a' w', Cur d ρ β0 s00 w0 ds tm1 s1 a' w' → K a' w') : wpOp d.cx.P d.ops Q i K a w := by
  obtain ⟨⟨β, ht, hs, hx⟩, hds, hst⟩ := hc
  unfold D.step at h
  split at h
  · cases h
  · rename_i o ho
    unfold wpOp
    simp only [ho]
    obtain ⟨gy, gn⟩ := gdS_ok (ops := d.ops) (o := o) ht hs
    split at h
    · cases h
    · cases h
    · rename_i hg
      cases h
      rw [gn hg]
      simp only [Bool.false_eq_true, if_false]
      exact hK _ _ ⟨⟨β, putS_den ht o.dst undefS, hs, hx⟩, by rw [put_defers]; exact hds, hst⟩
    · rename_i hg
      rw [gy hg]
      simp only [if_true]
      left
      simp only at h
      -- a box
      have mk : ∀ (el : TypeId) (l : List SV), (match reviveS s (d.n0 + allocsTo d.ops i) l el with
          | some s1 => if SV.avL (d.n0 + allocsTo d.ops i) tm && stays d.s0.bl s1.bl then X.ok (putS tm o.dst (.ptr (d.n0 + allocsTo d.ops i) 0)) s1 else .bad 53
          | none => .bad 54) = .ok tm1 s1 →
          (execOp a.eval o).run d.cx.P w = .ok (.value (.pointer (some ⟨w.heap.size, 0, none⟩))) (w.alloc (.cells (SV.denL ρ β l).toArray el)) → o.wp d.cx.P a w K Q := by
        intro el l h hrun
        split at h
        · rename_i s2 h2
          split at h <;> cases h
          rename_i hh
          simp only [Bool.and_eq_true] at hh
          obtain ⟨r1, r2, r3, _, _⟩ := reviveS_ok hs hx (by have := hd.len; omega) h2
          refine Res.wp (.inl hrun) (hK _ _ ⟨⟨_, ?_, r1, r2⟩, by rw [put_defers]; exact hds, ?_⟩)
          · have hp : Value.pointer (some ⟨w.heap.size, 0, none⟩) = (SV.ptr (d.n0 + allocsTo d.ops i) 0).den ρ (bset β (d.n0 + allocsTo d.ops i) w.heap.size) := by simp [SV.den, bset]
            rw [hp]
            refine putS_den (ρ := ρ) ?_ _ _
            rw [ht, SV.denL_av r3 tm hh.1]
          · exact stays_sat hd r1 hh.2 (fun j hj => r2.ag j (by rw [hd.len]; exact hj))
        · cases h
      split at h
      · rename_i el hop
        split at h
        · rename_i z hz
          split at h
          · rename_i l hl
            refine mk el l h ?_
            simp only [execOp, hop]
            refine run_v ?_
            simp only [Instr.alloc, Sem.run_bind, zeroS_ok (ρ := ρ) (β := β) (w := w) hz, Result.andThen_ok]
            simp [newVar, newRow, (SV.cells_den hd.hρ β hl).1]
          · cases h
        · cases h
      · rename_i el x hop
        split at h
        · rename_i l hl
          refine mk el l h ?_
          simp only [execOp, hop]
          refine run_v ?_
          simp only [evO_den ht, Instr.box, Sem.run_bind]
          simp [newVar, newRow, (SV.cells_den hd.hρ β hl).1]
        · cases h
      · rename_i bt len parts hop
        split at h
        · rename_i el l hl
          split at h
          · rename_i s2 h2
            split at h <;> cases h
            rename_i hh
            simp only [Bool.and_eq_true] at hh
            obtain ⟨r1, r2, r3, _, _⟩ := reviveS_ok hs hx (by have := hd.len; omega) h2
            have hrun : (execOp a.eval o).run d.cx.P w = .ok (.value (.slice (some ⟨w.heap.size, 0, none⟩) len len)) (w.alloc (.cells (SV.denL ρ β l).toArray el)) := by
              simp only [execOp, hop]
              refine run_v ?_
              rw [parts_map tm ht]
              exact rowC_ok hd.hρ hl
            refine Res.wp (.inl hrun) (hK _ _ ⟨⟨_, ?_, r1, r2⟩, by rw [put_defers]; exact hds, ?_⟩)
            · have hp : Value.slice (some ⟨w.heap.size, 0, none⟩) len len = (SV.slice (d.n0 + allocsTo d.ops i) 0 len (some len)).den ρ (bset β (d.n0 + allocsTo d.ops i) w.heap.size) := by simp [SV.den, bset]
              rw [hp]
              refine putS_den (ρ := ρ) ?_ _ _
              rw [ht, SV.denL_av r3 tm hh.1]
            · exact stays_sat hd r1 hh.2 (fun j hj => r2.ag j (by rw [hd.len]; exact hj))
          · cases h
        · cases h
      · split at h
        · rename_i r hr
          split at h <;> cases h
          rename_i hh
          simp only [Bool.and_eq_true] at hh
          obtain ⟨hch, hstay⟩ := hh
          refine opC_ok hd.hcx hd.hcf hd.hex hd.hρ ht hs (r := r.1) (s' := r.2) (by rw [hr]; rfl) _ _ ?_
          rintro V w' ⟨β', rfl, hs2, hx2, hc2⟩
          have htm : (SV.denL ρ β tm) = SV.denL ρ β' tm := by
            simp only [Bool.or_eq_true, Bool.not_eq_true'] at hch
            rcases hch with hch | hch
            · rw [hc2 hch]
            · exact (SV.denL_sc hx2.ag tm hch).symm
          rw [htm] at ht
          have hx3 := hx.trans hx2
          refine hK _ _ ⟨⟨β', ?_, hs2, hx3⟩, by rw [put_defers]; exact hds, stays_sat hd hs2 hstay (fun j hj => hx3.ag j (by rw [hd.len]; exact hj))⟩
          rw [← SV.ren_den (cx := d.cx) hd.kn r.1]
          exact putS_den ht _ _
        · cases h
        · cases h
        · cases h

theorem take_ok (hd : DOk d ρ β0 s00) {listed : Array Bool} {i : Nat} {tm : List SV} {s : St} {v : SV} {a : Act} {w : World} {β : Nat → Nat × Nat} (ht : a.tmps = (SV.denL ρ β tm).toArray) (hx : Ext s00 s β0 β w0 w) (hst : Sat ρ β0 d.s0 w)
    (h : d.take listed i tm = some v) : ∃ o, d.ops[i]? = some o ∧ Region.free .any d.ops listed i = true ∧ YieldsIf d.cx.P d.ops (Sat ρ β0 d.s0) o (v.den ρ β) a := by
  unfold D.take at h
  split at h
  · cases h
  · rename_i o ho
    have hren : ∀ w', Sat ρ β0 d.s0 w' → Sat ρ β d.s0 w' := fun w' h' => h'.rename hd.le (fun j hj => hx.ag j (by rw [hd.len]; exact hj)) hd.sc
    obtain ⟨gy, gn⟩ := gdS_ok (ops := d.ops) (o := o) ht (hren w hst)
    split at h
    · rename_i hg
      split at h <;> cases h
      exact ⟨o, ho, by assumption, .inr ⟨gn hg, rfl⟩⟩
    · rename_i hg
      split at h
      · rename_i hv
        split at h
        · rename_i r hr
          split at h <;> cases h
          refine ⟨o, ho, by assumption, .inl ⟨gy hg, fun w' hw' => ?_⟩⟩
          obtain ⟨_, _, _, _, _, _, hrun⟩ := opS_ok (s := d.s0) (s' := r.2) (r := r.1) hd.hρ ht (hren w' hw') (by rw [hr]; rfl)
          rw [SV.ren_den (cx := d.cx) hd.kn r.1]
          exact hrun hv
        · cases h
      · cases h
    · cases h

theorem takeOne_ok {listed : Array Bool} {tm : List SV} : ∀ {l : List Nat} {i : Nat} {v : SV}, d.takeOne listed tm l = some (i, v) → i ∈ l ∧ d.take listed i tm = some v
  | [], _, _, h => by cases h
  | k :: l, i, v, h => by
    simp only [D.takeOne] at h
    split at h
    · rename_i u hu
      cases h
      exact ⟨by simp, hu⟩
    · obtain ⟨h1, h2⟩ := takeOne_ok h
      exact ⟨by simp [h1], h2⟩

theorem explore_ok (hd : DOk d ρ β0 s00) (hns : Region.noSelect d.ops = true) {Q : Exit → Act → World → Prop} (hQp : ∀ c a w, ¬ Q (.panic c) a w) : ∀ (fuel : Nat) {listed : Array Bool} {tm tm' : List SV} {s s' : St} {a : Act} {w : World},
    Cur d ρ β0 s00 w0 ds tm s a w → d.explore fuel listed tm s = .ok tm' s' →
    (∀ a' w' s'', s''.bl = s'.bl → Cur d ρ β0 s00 w0 ds tm' s'' a' w' → Q .normal a' w') → wpAnyH d.cx.P .any d.ops Q (Sat ρ β0 d.s0) fuel listed a w
  | 0, listed, tm, tm', s, s', a, w, hc, h, hQ => by
    simp only [D.explore] at h
    split at h
    · rename_i hr
      cases h
      exact ⟨hr, hQ _ _ _ rfl hc⟩
    · cases h
  | fuel + 1, listed, tm, tm', s, s', a, w, hc, h, hQ => by
    simp only [D.explore] at h
    split at h
    · rename_i hr
      cases h
      exact wpAnyH_done hr (hQ _ _ _ rfl hc) _
    · rename_i i rest hr
      split at h
      · rename_i k v hk
        obtain ⟨hmem, htk⟩ := takeOne_ok hk
        obtain ⟨⟨β, ht, hs, hx⟩, hds, hst⟩ := hc
        obtain ⟨o, ho, hfree, hy⟩ := take_ok hd ht hx hst htk
        refine wpAnyH_take ho hns hfree (by rw [hr]; simpa using hmem) (fun c a w h => absurd h (hQp c _ w)) hy hst ?_
        refine explore_ok hd hns hQp fuel ⟨⟨β, ?_, hs, hx⟩, by rw [put_defers]; exact hds, hst⟩ h hQ
        have : dstOf d.ops k = o.dst := by simp [dstOf, ho]
        rw [this]
        exact putS_den ht _ _
      · obtain ⟨h1, h2⟩ := foldl_join (one := fun k => match d.step k tm s with
          | .ok tm1 s1 => d.explore fuel (listed.setIfInBounds k true) tm1 s1
          | r => r) rest _ h
        refine wpAnyH_all hr (by simp) fun k hk => ?_
        have hone : ∃ sx, (match d.step k tm s with
          | .ok tm1 s1 => d.explore fuel (listed.setIfInBounds k true) tm1 s1
          | r => r) = .ok tm' sx ∧ sx.bl = s'.bl := by
          rcases List.mem_cons.1 hk with rfl | hk
          · exact ⟨_, h1, rfl⟩
          · exact h2 k hk
        obtain ⟨sx, hsx, hbl⟩ := hone
        split at hsx
        · rename_i tm1 s1 h3
          refine step_ok hd hc h3 fun a' w' hc' => ⟨hc'.st, ?_⟩
          exact explore_ok hd hns hQp fuel hc' hsx (fun a2 w2 s2 e2 c2 => hQ a2 w2 s2 (e2.trans hbl) c2)
        · rename_i hno
          exact absurd hsx (hno tm' sx)

theorem Cur.kn {tm : List SV} {s s2 : St} {a : Act} {w : World} (hd : DOk d ρ β0 s00) (h : Cur d ρ β0 s00 w0 ds tm s a w) (e : s2.bl = s.bl) (hk : s2.kn = d.s0.kn) : Cur d ρ β0 s00 w0 ds tm s2 a w := by
  obtain ⟨⟨β, h1, h2, h3⟩, h4, h5⟩ := h
  exact ⟨⟨β, h1, h2.mask (fun j b hj => .inr (by rw [← e]; exact hj)) (by rw [hk]; exact hd.kn), h3.trans (ext_kn e β w)⟩, h4, h5⟩

end

end Go.Eng
