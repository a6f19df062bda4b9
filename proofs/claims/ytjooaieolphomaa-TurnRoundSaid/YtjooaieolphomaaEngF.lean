/-
  A symbolic executor, part F: slices, and built-in functions.
-/
import Derived.Test.YtjooaieolphomaaEngE
import Derived.Laws.Append
set_option linter.unusedVariables false
set_option linter.unusedSimpArgs false
namespace Go.Eng

/-! ### slices of slices, of arrays -/

def optC : Option SV → Option (Option Int)
  | none => some none
  | some x => (constI x).map some

/-- the bounds (low, high) of a slice expression, within len and cap -/
def bndS (lo hi : Option Int) (len cap : Nat) : Option (Nat × Nat) :=
  let h := match hi with
    | some h => if 0 ≤ h ∧ h ≤ cap then some h.toNat else none
    | none => some len
  match h with
  | none => none
  | some h => match lo with
    | some l => if 0 ≤ l ∧ l ≤ h then some (l.toNat, h) else none
    | none => some (0, h)

theorem bndS_ok {P : Program} {ρ : Env} {β : Nat → Nat × Nat} {w : World} {b : Bool} {lo hi : Option SV} {lo' hi' : Option Int} {len cap l h : Nat}
    (h1 : optC lo = some lo') (h2 : optC hi = some hi') (hb : bndS lo' hi' len cap = some (l, h)) :
    (Instr.sliceBounds b len cap (lo.map (SV.den ρ β)) (hi.map (SV.den ρ β)) none).run P w = .ok (l, h, cap) w := by
  have hlo : ∀ (x : SV) (n : Int) (y : Nat) (c : BoundsCode), constI x = some n → 0 ≤ n → n ≤ y → (Instr.sliceBound (x.den ρ β) y c).run P w = .ok n.toNat w := by
    intro x n y c hx h0 h1
    obtain ⟨k, hk⟩ := constI_ok (P := P) (ρ := ρ) (β := β) (w := w) hx
    simp [Instr.sliceBound, hk, h0, h1]
  unfold bndS at hb
  cases hi with
  | none =>
    simp [optC] at h2
    subst h2
    simp only at hb
    cases lo with
    | none =>
      simp [optC] at h1
      subst h1
      simp at hb
      obtain ⟨rfl, rfl⟩ := hb
      simp [Instr.sliceBounds]
    | some x =>
      simp only [optC] at h1
      obtain ⟨n, hn, rfl⟩ := Option.map_eq_some_iff.1 h1
      simp only at hb
      split at hb <;> cases hb
      rename_i hh
      simp [Instr.sliceBounds, hlo x n _ _ hn hh.1 hh.2]
  | some y =>
    simp only [optC] at h2
    obtain ⟨m, hm, rfl⟩ := Option.map_eq_some_iff.1 h2
    simp only at hb
    split at hb
    · cases hb
    · rename_i h' hh'
      split at hh' <;> cases hh'
      rename_i hmm
      cases lo with
      | none =>
        simp [optC] at h1
        subst h1
        simp at hb
        obtain ⟨rfl, rfl⟩ := hb
        simp [Instr.sliceBounds, hlo y m _ _ hm hmm.1 hmm.2]
      | some x =>
        simp only [optC] at h1
        obtain ⟨n, hn, rfl⟩ := Option.map_eq_some_iff.1 h1
        simp only at hb
        split at hb <;> cases hb
        rename_i hh
        simp [Instr.sliceBounds, hlo y m _ _ hm hmm.1 hmm.2, hlo x n _ _ hn hh.1 hh.2]

def sliceS (cx : Cx) (t : TypeId) (x : SV) (lo hi mx : Option SV) (s : St) : Option SV :=
  match mx, optC lo, optC hi with
  | none, some lo', some hi' =>
    match cx.und t, x with
    | some (.array n e), .ptr j off => match szT cx e, bndS lo' hi' n n with
      | some z, some (l, h) => some (.slice j (if n = l then off else off + l * z) (h - l) (some (n - l)))
      | _, _ => none
    | some (.slice e), .slice j off len (some c) => match szT cx e, bndS lo' hi' len c with
      | some z, some (l, h) => some (.slice j (if c = l then off else off + l * z) (h - l) (some (c - l)))
      | _, _ => none
    | some (.slice e), .slice j 0 len none => match s.bl[j]? with
      | some (.cells L _ (some z)) => match bndS lo' hi' len (L.length / z) with
        | some (0, h) => if 0 < z ∧ szT cx e = some z then some (.slice j 0 h none) else none
        | _ => none
      | _ => none
    | some .string, .lit (.string b) => match bndS lo' hi' b.size b.size with
      | some (l, h) => some (.lit (.string (b.extract l h)))
      | _ => none
    | _, _ => none
  | _, _, _ => none

theorem bndS_mono {lo hi : Option Int} {len cap cap' l h : Nat} (hc : cap ≤ cap') (hb : bndS lo hi len cap = some (l, h)) : bndS lo hi len cap' = some (l, h) := by
  unfold bndS at *
  cases hi with
  | none => exact hb
  | some m =>
    simp only at *
    by_cases hm : 0 ≤ m ∧ m ≤ cap
    · rw [if_pos hm] at hb
      rw [if_pos (by omega)]
      exact hb
    · rw [if_neg hm] at hb
      cases hb

theorem sliceS_ok {cx : Cx} {ρ : Env} {β : Nat → Nat × Nat} {w : World} {t : TypeId} {s : St} {X v : SV} {lo hi mx : Option SV} (hs : Sat ρ β s w) (h : sliceS cx t X lo hi mx s = some v) :
    (Instr.sliceAt t (X.den ρ β) (lo.map (SV.den ρ β)) (hi.map (SV.den ρ β)) (mx.map (SV.den ρ β))).run cx.P w = .ok (v.den ρ β) w := by
  unfold sliceS at h
  split at h
  case h_2 => cases h
  rename_i lo' hi' h1 h2
  split at h
  · rename_i n e j off hu
    split at h
    · rename_i z l hh hz hb
      cases h
      have hr := bndS_ok (P := cx.P) (ρ := ρ) (β := β) (w := w) (b := false) h1 h2 hb
      simp only [Option.map_none, Instr.sliceAt, Sem.run_bind, run_und hu, Result.andThen_ok, SV.den, Instr.sureAddr, Sem.run_pure, hr, run_sizeOf_of hz, Option.getD_some]
      split <;> simp_all [addr_add]
    · cases h
  · rename_i e j off len c hu
    split at h
    · rename_i z l hh hz hb
      cases h
      have hr := bndS_ok (P := cx.P) (ρ := ρ) (β := β) (w := w) (b := true) h1 h2 hb
      simp only [Option.map_none, Instr.sliceAt, Instr.slice, Sem.run_bind, run_und hu, Result.andThen_ok, SV.den, Option.getD_some, hr, run_sizeOf_of hz, Sem.run_pure]
      split <;> simp_all [addr_add]
    · cases h
  · rename_i e j len hu
    split at h
    · rename_i L e2 z hj
      split at h
      · rename_i hh hb
        split at h
        · rename_i hz
          cases h
          obtain ⟨tl, ht, _, hcap⟩ := hs.blk j _ hj
          obtain ⟨hc, _⟩ := hcap z rfl
          have hle : L.length / z ≤ (β j).2 := by
            have : L.length ≤ (β j).2 * z := by rw [← hc]; simp
            exact Nat.div_le_of_le_mul (by rw [Nat.mul_comm]; exact this)
          have hr := bndS_ok (P := cx.P) (ρ := ρ) (β := β) (w := w) (b := true) h1 h2 (bndS_mono hle hb)
          simp only [Option.map_none, Instr.sliceAt, Instr.slice, Sem.run_bind, run_und hu, Result.andThen_ok, SV.den, Option.getD_none, hr, run_sizeOf_of hz.2, Sem.run_pure]
          split <;> simp_all [addr_add]
        · cases h
      · cases h
    · cases h
  · rename_i b hu
    split at h
    · rename_i l hh hb
      cases h
      have hr := bndS_ok (P := cx.P) (ρ := ρ) (β := β) (w := w) (b := false) h1 h2 hb
      simp [Instr.sliceAt, Instr.slice, run_und hu, SV.den, hr]
    · cases h
  · cases h

/-! ### built-in functions that only look -/

def lenS (cx : Cx) (ats : Array TypeId) (x : SV) : Option SV :=
  match ats[0]? with
  | none => none
  | some t =>
    match cx.und t, x with
    | some .string, .lit (.string s) => some (.int .i64 (.c s.size))
    | some (.array n _), _ => some (.int .i64 (.c n))
    | some (.slice _), .slice _ _ n _ => some (.int .i64 (.c n))
    | some (.slice _), .lit (.slice none n _) => some (.int .i64 (.c n))
    | some (.pointer a), _ => match cx.und a with
      | some (.array n _) => some (.int .i64 (.c n))
      | _ => none
    | _, _ => none
theorem lenS_ok {cx : Cx} {ρ : Env} {β : Nat → Nat × Nat} {w : World} {ats : Array TypeId} {ty : TypeId} {X v : SV} {args : Array Value} (h0 : args[0]? = some (X.den ρ β)) (h : lenS cx ats X = some v) :
    (Builtin.len_ ats ty args).run cx.P w = .ok (v.den ρ β) w := by
  unfold lenS at h
  split at h
  · cases h
  · rename_i t ht
    split at h
    · rename_i s hu; cases h; simp [Builtin.len_, ht, h0, run_und hu, SV.den, E.ev, goInt]
    · rename_i n e hu; cases h; simp [Builtin.len_, ht, h0, run_und hu, SV.den, E.ev, goInt]
    · rename_i e j off n c hu; cases h; simp [Builtin.len_, ht, h0, run_und hu, SV.den, E.ev, goInt]
    · rename_i e n c hu; cases h; simp [Builtin.len_, ht, h0, run_und hu, SV.den, E.ev, goInt]
    · rename_i a hu
      split at h
      · rename_i n e hu2
        cases h; simp [Builtin.len_, ht, h0, run_und hu, run_und hu2, SV.den, E.ev, goInt]
      · cases h
    · cases h

/-- the least, the greatest of integers -/
def mmS (cx : Cx) (o : BO) (k : IntKind) (acc : E) : List SV → Option E
  | [] => some acc
  | .int _ e :: l => mmS cx o k (E.b' cx o k acc e) l
  | _ => none

theorem mmS_min {cx : Cx} {ρ : Env} {β : Nat → Nat × Nat} {w : World} (hρ : EnvOk cx ρ) (k : IntKind) : ∀ (l : List SV) (acc r : E), mmS cx .min k acc l = some r →
    ((SV.denL ρ β l).foldlM Builtin.min2 (.int k (acc.ev ρ))).run cx.P w = .ok (.int k (r.ev ρ)) w
  | [], acc, r, h => by cases h; rfl
  | x :: l, acc, r, h => by
    cases x <;> simp only [mmS] at h <;> try (cases h; done)
    rename_i k' e
    have ih := mmS_min (β := β) (w := w) hρ k l _ r h
    rw [E.b'_ev hρ] at ih
    simp only [SV.denL, List.foldlM_cons, Sem.run_bind, SV.den, Builtin.min2, Sem.run_pure, Result.andThen_ok]
    exact ih
theorem mmS_max {cx : Cx} {ρ : Env} {β : Nat → Nat × Nat} {w : World} (hρ : EnvOk cx ρ) (k : IntKind) : ∀ (l : List SV) (acc r : E), mmS cx .max k acc l = some r →
    ((SV.denL ρ β l).foldlM Builtin.max2 (.int k (acc.ev ρ))).run cx.P w = .ok (.int k (r.ev ρ)) w
  | [], acc, r, h => by cases h; rfl
  | x :: l, acc, r, h => by
    cases x <;> simp only [mmS] at h <;> try (cases h; done)
    rename_i k' e
    have ih := mmS_max (β := β) (w := w) hρ k l _ r h
    rw [E.b'_ev hρ] at ih
    simp only [SV.denL, List.foldlM_cons, Sem.run_bind, SV.den, Builtin.max2, Sem.run_pure, Result.andThen_ok]
    exact ih

/-! ### append -/

/-- a block that is known no more -/
def St.drop (s : St) (j : Nat) : St := { s with bl := s.bl.set j .gone }

theorem live_drop {s : St} {j i : Nat} : live (s.drop j) i ↔ (live s i ∧ i ≠ j) := by
  unfold live St.drop
  by_cases hij : j = i
  · subst hij
    simp only [ne_eq, not_true_eq_false, and_false, iff_false, not_exists]
    intro l e o h
    rw [List.getElem?_set] at h
    split at h <;> simp_all
  · simp [List.getElem?_set_ne hij, Ne.symm hij]

theorem drop_get {s : St} {j i : Nat} {b : SBlk} (h : (s.drop j).bl[i]? = some b) : b = .gone ∨ (i ≠ j ∧ s.bl[i]? = some b) := by
  unfold St.drop at h
  by_cases hij : j = i
  · subst hij
    rw [List.getElem?_set] at h
    split at h <;> simp_all
  · rw [List.getElem?_set_ne hij] at h
    exact .inr ⟨Ne.symm hij, h⟩

/-- a block more, at a place that nobody else has -/
def St.pushB (s : St) (b : SBlk) : St := { s with bl := s.bl ++ [b] }

theorem live_pushB {s : St} {b : SBlk} {j : Nat} (h : live (s.pushB b) j) : live s j ∨ j = s.bl.length := by
  obtain ⟨l, e, o, h⟩ := h
  unfold St.pushB at h
  simp only [List.getElem?_append] at h
  split at h
  · exact .inl ⟨l, e, o, h⟩
  · rename_i hn
    have := (List.getElem?_eq_some_iff.1 h).1
    simp at this
    exact .inr (by omega)

theorem Sat.pushB {ρ : Env} {β : Nat → Nat × Nat} {s : St} {w : World} (h : Sat ρ β s w) {l : List SV} {e : TypeId} {o : Option Nat} {g q : Nat} (hsc : s.sc s.bl.length = true) (hl : SV.scL s.bl.length l = true)
    (hg : blkOk ρ β q (.cells l e o) (w.heap[g]?)) (hn : ∀ i, live s i → (β i).1 ≠ g) :
    Sat ρ (bnew β s.bl.length g q) (s.pushB (.cells l e o)) w := by
  have hag : ∀ j, j < s.bl.length → bnew β s.bl.length g q j = β j := fun j hj => by unfold bnew; rw [if_neg (by omega)]
  refine ⟨?_, ?_, h.kn⟩
  · intro j b hj
    unfold St.pushB at hj
    simp only [List.getElem?_append] at hj
    split at hj
    · rename_i hlt
      rw [hag j hlt]
      have hbs : b.sc s.bl.length = true := List.all_eq_true.1 hsc b (List.mem_of_getElem? hj)
      exact blkOk_sc hag hbs (h.blk j b hj)
    · rename_i hge
      have := (List.getElem?_eq_some_iff.1 hj).1
      simp at this
      have : j = s.bl.length := by omega
      subst this
      simp at hj
      subst hj
      have e1 : bnew β s.bl.length g q s.bl.length = (g, q) := by simp [bnew]
      rw [e1]
      exact blkOk_sc hag (b := .cells l e o) hl hg
  · intro a b ha hb he
    rcases live_pushB ha with ha | rfl <;> rcases live_pushB hb with hb | rfl
    · rw [hag a (live_lt ha), hag b (live_lt hb)] at he
      exact h.inj a b ha hb he
    · rw [hag a (live_lt ha)] at he
      exact absurd (by rw [he]; simp [bnew]) (hn a ha)
    · rw [hag b (live_lt hb)] at he
      exact absurd (by rw [← he]; simp [bnew]) (hn b hb)
    · rfl

theorem Sat.drop {ρ : Env} {β : Nat → Nat × Nat} {s : St} {w : World} (h : Sat ρ β s w) (j : Nat) : Sat ρ β (s.drop j) w :=
  ⟨fun i b hb => by
    rcases drop_get hb with rfl | ⟨_, hb⟩
    · trivial
    · exact h.blk i b hb, fun a b ha hb he => h.inj a b (live_drop.1 ha).1 (live_drop.1 hb).1 he, h.kn⟩

/-- the world has changed at one block alone, which is known no more -/
theorem Sat.other {ρ : Env} {β : Nat → Nat × Nat} {s : St} {w w' : World} (h : Sat ρ β s w) (hw : ∀ i, live s i → w'.heap[(β i).1]? = w.heap[(β i).1]?) : Sat ρ β s w' :=
  ⟨fun i b hb => by
    cases b with
    | gone => trivial
    | cells l e o => rw [hw i ⟨l, e, o, hb⟩]; exact h.blk i _ hb, h.inj, h.kn⟩

/-- what is appended: so many elements, their cells -/
def srcS (z : Nat) (x : SV) (s : St) : Option (Nat × List SV) :=
  match x with
  | .slice j off m _ => match s.cellN j off (m * z) with
    | some l => some (m, l)
    | none => none
  | .lit (.slice none 0 _) => some (0, [])
  | _ => none

def capOk (c o : Option Nat) (n z : Nat) : Bool :=
  match c, o with
  | some c, none => decide (n = c * z) && decide (c ≤ 1000000)
  | none, some y => decide (y = z)
  | _, _ => false

def growS (s : St) (news : List SV) (e : TypeId) (z n : Nat) : Option (SV × St) :=
  if SV.scL s.bl.length news && allOne news then some (.slice s.bl.length 0 n none, s.pushB (.cells news e (some z))) else none

def appendS (cx : Cx) (ats : Array TypeId) (x y : SV) (s : St) : Option (SV × St) :=
  match ats.toList with
  | [t, t'] =>
    match cx.und t with
    | some (.slice e) => match cx.inf e with
      | some i => match i.zero with
        | some zv =>
          if decide (t = t') && decide (0 < i.size) && decide (zv.cells.size = i.size) && decide (i.bytes ≤ 1000000) && s.sc s.bl.length then
            match srcS i.size y s with
            | none => none
            | some (0, _) =>
              match x with
              | .lit (.slice none 0 0) => some (x, s)
              | .slice _ _ n (some c) => if n ≤ c then some (x, s) else none
              | _ => none
            | some (m, news) =>
              match x with
              | .lit (.slice none 0 0) => if m ≤ 1000000 then growS s news e i.size m else none
              | .slice j 0 n c =>
                match s.bl[j]? with
                | some (.cells l e' o) =>
                  if decide (e' = e) && decide (n * i.size ≤ l.length) && capOk c o l.length i.size && decide (n + m ≤ 1000000) && allOne news then
                    (growS s (l.take (n * i.size) ++ news) e i.size (n + m)).map fun r => (r.1, r.2.drop j)
                  else none
                | _ => none
              | _ => none
          else none
        | none => none
      | none => none
    | _ => none
  | _ => none

theorem Ext.drop (s : St) (j : Nat) (β : Nat → Nat × Nat) (w : World) : Ext s (s.drop j) β β w w :=
  ⟨fun _ _ => rfl, fun i _ h => (live_drop.1 h).1, fun i hi h => absurd (live_lt (live_drop.1 h).1) (by omega), Nat.le_refl _, fun _ _ _ => rfl, by simp [St.drop], rfl, rfl, rfl⟩

/-- a new row behind a draw: a name for it -/
theorem growS_new {ρ : Env} {β : Nat → Nat × Nat} {s s' : St} {w : World} {news : List SV} {e : TypeId} {z n : Nat} {v : SV} (hs : Sat ρ β s w) (hsc : s.sc s.bl.length = true) (h : growS s news e z n = some (v, s'))
    (tl : List Value) (q : Nat) (hq : (SV.denL ρ β news ++ tl).length = q * z) (hm : q ≤ maxLen) :
    ∃ β', v.den ρ β' = .slice (some ⟨w.heap.size, 0, none⟩) n q ∧ Sat ρ β' s' (w.drew.alloc (.cells (SV.denL ρ β news ++ tl).toArray e)) ∧
      Ext s s' β β' w (w.drew.alloc (.cells (SV.denL ρ β news ++ tl).toArray e)) := by
  unfold growS at h
  split at h <;> cases h
  rename_i hc
  simp only [Bool.and_eq_true] at hc
  have hold : ∀ b, b < w.heap.size → (w.drew.alloc (.cells (SV.denL ρ β news ++ tl).toArray e)).heap[b]? = w.heap[b]? := by
    intro b hb
    show (w.heap.push _)[b]? = _
    rw [Array.getElem?_push, if_neg (by omega)]
  have hs2 : Sat ρ β s (w.drew.alloc (.cells (SV.denL ρ β news ++ tl).toArray e)) := hs.other fun i hi => hold _ (hs.lt hi)
  have hg : (w.drew.alloc (.cells (SV.denL ρ β news ++ tl).toArray e)).heap[w.heap.size]? = some (.cells (SV.denL ρ β news ++ tl).toArray e) := by
    show (w.heap.push _)[w.heap.size]? = _
    simp
  refine ⟨bnew β s.bl.length w.heap.size q, by simp [SV.den, bnew], ?_, ?_⟩
  · refine hs2.pushB (e := e) (o := some z) hsc hc.1 ?_ (fun i hi he => by have := hs.lt hi; omega)
    refine ⟨tl, hg, (fun h => by cases h), fun sz hsz => ?_⟩
    cases hsz
    exact ⟨hq, hm⟩
  · refine ⟨fun j hj => by simp [bnew]; omega, fun j hj hl => ?_, fun j hj hl => ?_, by simp, fun b hb _ => hold b hb, by simp [St.pushB], rfl, rfl, rfl⟩
    · rcases live_pushB hl with hl | rfl
      · exact hl
      · omega
    · rcases live_pushB hl with hl | rfl
      · have := live_lt hl; omega
      · exact .inl (by simp [bnew])

theorem cells_at {ρ : Env} {β : Nat → Nat × Nat} {s : St} {w : World} (hs : Sat ρ β s w) {j off n : Nat} {l : List SV} (h : s.cellN j off n = some l) :
    (SV.denL ρ β l).length = n ∧ ∀ i v, (SV.denL ρ β l)[i]? = some v → w.cell? ((⟨(β j).1, off, none⟩ : Addr).add i) = some v := by
  obtain ⟨h1, h2⟩ := hs.cellN n off h
  refine ⟨by simp [h1], fun i v hv => ?_⟩
  rw [denL_get] at hv
  obtain ⟨y, hy, rfl⟩ := Option.map_eq_some_iff.1 hv
  rw [addr_add]
  exact h2 i y hy

theorem allOne_den {cx : Cx} {ρ : Env} (hρ : EnvOk cx ρ) (β : Nat → Nat × Nat) {l : List SV} (h : allOne l = true) : ∀ u ∈ SV.denL ρ β l, u.oneCell' = true := by
  intro u hu
  rw [denL_map] at hu
  obtain ⟨x, hx, rfl⟩ := List.mem_map.1 hu
  exact oneV_oneCell (SV.one_den hρ β (List.all_eq_true.1 h x hx))

theorem take_denL (ρ : Env) (β : Nat → Nat × Nat) (n : Nat) (l : List SV) : SV.denL ρ β (l.take n) = (SV.denL ρ β l).take n := by simp [denL_map, List.map_take]

theorem growS_swap {s : St} {news : List SV} {e : TypeId} {z n j : Nat} {v : SV} {s' : St} (h : growS s news e z n = some (v, s')) (hj : j < s.bl.length) :
    growS (s.drop j) news e z n = some (v, s'.drop j) := by
  unfold growS at *
  have hlen : (s.drop j).bl.length = s.bl.length := by simp [St.drop]
  rw [hlen]
  split at h <;> cases h
  rename_i hc
  rw [if_pos hc]
  simp [St.drop, St.pushB, List.set_append_left, hj]

theorem drop_sc {s : St} {j n : Nat} (h : s.sc n = true) : (s.drop j).sc n = true := by
  unfold St.sc St.drop at *
  rw [List.all_eq_true] at *
  intro b hb
  rcases List.mem_or_eq_of_mem_set hb with hb | rfl
  · exact h b hb
  · rfl

theorem toArr {α : Type} (a : List α) (b : Array α) : a.toArray ++ b = (a ++ b.toList).toArray := by
  apply Array.ext'; simp

theorem appendS_ok {cx : Cx} {ρ : Env} (hρ : EnvOk cx ρ) {β : Nat → Nat × Nat} {s s' : St} {w : World} {ats : Array TypeId} {ty : TypeId} {x y v : SV} (hs : Sat ρ β s w)
    (h : appendS cx ats x y s = some (v, s')) :
    ∃ β' w', (Builtin.append_ ats ty #[x.den ρ β, y.den ρ β]).run cx.P w = .ok (v.den ρ β') w' ∧ Sat ρ β' s' w' ∧ Ext s s' β β' w w' := by
  unfold appendS at h
  split at h
  case h_2 => cases h
  rename_i t t' hats
  split at h
  case h_2 => cases h
  rename_i e hu
  split at h
  case h_2 => cases h
  rename_i i hi
  split at h
  case h_2 => cases h
  rename_i zv hz
  split at h
  case isFalse => cases h
  rename_i hc
  simp only [Bool.and_eq_true, decide_eq_true_eq] at hc
  obtain ⟨⟨⟨⟨htt, hsz⟩, hzs⟩, hby⟩, hsc⟩ := hc
  subst htt
  have hats' : ats = #[t, t] := by
    apply Array.ext'
    simpa using hats
  subst hats'
  split at h
  · cases h
  · -- nothing is appended
    rename_i l hsrc
    have happ : ∃ a m c, y.den ρ β = .slice a m c ∧ m = 0 := by
      unfold srcS at hsrc
      split at hsrc
      · rename_i j off m c
        split at hsrc <;> cases hsrc
        exact ⟨_, _, _, rfl, rfl⟩
      · exact ⟨_, _, _, rfl, rfl⟩
      · cases hsrc
    obtain ⟨a, m, c, hy, rfl⟩ := happ
    rw [hy]
    have hfc : (Builtin.firstCells i.size 0 (.slice a 0 c)).run cx.P w = .ok #[] w := by
      cases a <;> simp [Builtin.firstCells, loadCells, loadCellsFrom]
    split at h
    · cases h
      refine ⟨β, w, ?_, hs, Ext.refl _ _ _⟩
      simp [Builtin.append_, run_und hu, run_sizeOf_of (cx := cx) (t := e) (n := i.size) (by simp [szT, hi]), Builtin.lenOf, SV.den, hfc]
    · rename_i j off n cc
      split at h <;> cases h
      rename_i hle
      refine ⟨β, w, ?_, hs, Ext.refl _ _ _⟩
      simp [Builtin.append_, run_und hu, run_sizeOf_of (cx := cx) (t := e) (n := i.size) (by simp [szT, hi]), Builtin.lenOf, SV.den, hfc, hle, storeCells]
    · cases h
  · rename_i m news hm0 hsrc
    have hm : 0 < m := by
      rcases Nat.eq_zero_or_pos m with rfl | hm
      · exact absurd rfl hm0
      · exact hm
    obtain ⟨jj, off, cc, rfl, hcn⟩ : ∃ jj off cc, y = .slice jj off m cc ∧ s.cellN jj off (m * i.size) = some news := by
      unfold srcS at hsrc
      split at hsrc
      · rename_i j off m' c
        split at hsrc <;> cases hsrc
        exact ⟨_, _, _, rfl, by assumption⟩
      · cases hsrc; omega
      · cases hsrc
    obtain ⟨hnl, hnc⟩ := cells_at hs hcn
    split at h
    · -- to nothing
      split at h
      case isFalse => cases h
      rename_i hml
      have hr := run_append_nil (P := cx.P) w t ty e i zv (cx.undOk _ _ hu) (cx.infOk _ _ hi) hz ⟨(β jj).1, off, none⟩ m (cc.getD (β jj).2) (SV.denL ρ β news) hnl hnc hm (by omega) (by
        have := Nat.mul_le_mul hml hby; omega)
      have hge := grownCap_ge w m 0 e
      have hle := grownCap_le_maxLen w m 0 e (by unfold maxLen; omega)
      obtain ⟨β', h1, h2, h3⟩ := growS_new (n := m) hs hsc h (Builtin.zeroCells zv.cells (grownCap w m 0 e - m)).toList (grownCap w m 0 e) (by
        simp only [List.length_append, hnl, Array.length_toList, size_zeroCells, hzs, ← Nat.add_mul]; congr 1; omega) hle
      refine ⟨β', _, ?_, h2, h3⟩
      rw [h1]
      simp only [SV.den]
      rw [hr, toArr]
    · -- to a row of one's own
      rename_i j n c
      split at h
      case h_2 => cases h
      rename_i l e' o hj
      split at h
      case isFalse => cases h
      rename_i hc
      simp only [Bool.and_eq_true, decide_eq_true_eq] at hc
      obtain ⟨⟨⟨⟨rfl, hln⟩, hcap⟩, hnm⟩, hone⟩ := hc
      obtain ⟨⟨v1, s1⟩, hg, hr1⟩ := Option.map_eq_some_iff.1 h
      simp only [Prod.mk.injEq] at hr1
      obtain ⟨rfl, rfl⟩ := hr1
      have hjl := (List.getElem?_eq_some_iff.1 hj).1
      have hlive : live s j := ⟨_, _, _, hj⟩
      have hg2 := growS_swap hg hjl
      have hs2 := hs.drop j
      obtain ⟨tl, ht, htl, hcp⟩ := hs.blk j _ hj
      -- the row, its capacity
      have hrow : (SV.denL ρ β l ++ tl).length = (c.getD (β j).2) * i.size ∧ c.getD (β j).2 ≤ maxLen := by
        unfold capOk at hcap
        split at hcap
        · simp only [Bool.and_eq_true, decide_eq_true_eq] at hcap
          rw [htl rfl]
          simp only [List.append_nil, denL_length, Option.getD_some]
          exact ⟨hcap.1, by unfold maxLen; omega⟩
        · simp only [decide_eq_true_eq] at hcap
          subst hcap
          exact hcp _ rfl
        · cases hcap
      simp only [SV.den]
      generalize c.getD (β j).2 = q at hrow ⊢
      have hxs : (SV.denL ρ β (l.take (n * i.size))).length = n * i.size := by simp; omega
      have hxc : ∀ k u, (SV.denL ρ β (l.take (n * i.size)))[k]? = some u → w.cell? ((⟨(β j).1, 0, none⟩ : Addr).add k) = some u := by
        intro k u hk
        rw [take_denL, List.getElem?_take] at hk
        split at hk
        · rw [addr_add]
          simp only [World.cell?, ht]
          simp only [Option.isSome_none, Bool.false_eq_true, if_false, List.getElem?_toArray, Nat.zero_add]
          rw [List.getElem?_append_left (by have := (List.getElem?_eq_some_iff.1 hk).1; exact this)]
          exact hk
        · cases hk
      by_cases hroom : n + m ≤ q
      · -- there is room
        have hfit : n * i.size + (SV.denL ρ β news).length ≤ (SV.denL ρ β l ++ tl).toArray.size := by
          simp only [List.size_toArray, hnl, hrow.1, ← Nat.add_mul]; exact Nat.mul_le_mul_right _ hroom
        have hr := run_append_room (P := cx.P) w t ty e' i (cx.undOk _ _ hu) (cx.infOk _ _ hi) (β j).1 n q (SV.denL ρ β l ++ tl).toArray ht ⟨(β jj).1, off, none⟩ m (cc.getD (β jj).2) (SV.denL ρ β news) hnl hnc (allOne_den hρ β hone) hroom hfit
        let cur := ((SV.denL ρ β l ++ tl).take (n * i.size) ++ SV.denL ρ β news ++ (SV.denL ρ β l ++ tl).drop (n * i.size + (SV.denL ρ β news).length))
        have hw : ∀ b, b ≠ (β j).1 → (w.setRow (β j).1 cur.toArray).heap[b]? = w.heap[b]? := fun b hb => setRow_other w _ b _ hb
        have hs3 : Sat ρ β (s.drop j) (w.setRow (β j).1 cur.toArray) := hs2.other fun k hk => hw _ (fun e => (live_drop.1 hk).2 (hs.inj _ _ (live_drop.1 hk).1 hlive e))
        have hnew := setRow_heap w (β j).1 _ cur.toArray e' (0, 0) ht
        have htake : (SV.denL ρ β l ++ tl).take (n * i.size) = SV.denL ρ β (l.take (n * i.size)) := by
          rw [take_denL, List.take_append_of_le_length (by simp; omega)]
        have hcur : cur = SV.denL ρ β (l.take (n * i.size) ++ news) ++ (SV.denL ρ β l ++ tl).drop (n * i.size + (SV.denL ρ β news).length) := by
          show (SV.denL ρ β l ++ tl).take (n * i.size) ++ SV.denL ρ β news ++ _ = _
          rw [htake, denL_append]
        have hgsc : SV.scL s.bl.length (l.take (n * i.size) ++ news) = true := by
          unfold growS at hg
          split at hg
          · rename_i hh; simp only [Bool.and_eq_true] at hh; exact hh.1
          · cases hg
        have hlen : (s.drop j).bl.length = s.bl.length := by simp [St.drop]
        have hs4 := hs3.pushB (l := l.take (n * i.size) ++ news) (e := e') (o := some i.size) (g := (β j).1) (q := q) (by rw [hlen]; exact drop_sc hsc) (by rw [hlen]; exact hgsc) (by
          refine ⟨(SV.denL ρ β l ++ tl).drop (n * i.size + (SV.denL ρ β news).length), ?_, (fun h => by cases h), fun sz hsz => ?_⟩
          · rw [hnew, hcur]
          · cases hsz
            rw [← hcur]
            refine ⟨?_, hrow.2⟩
            show ((SV.denL ρ β l ++ tl).take (n * i.size) ++ SV.denL ρ β news ++ _).length = _
            have h5 : n * i.size + m * i.size ≤ q * i.size := by rw [← Nat.add_mul]; exact Nat.mul_le_mul_right _ hroom
            simp only [List.length_append, List.length_take, List.length_drop, hnl] at hrow ⊢
            omega) (fun k hk he => (live_drop.1 hk).2 (hs.inj _ _ (live_drop.1 hk).1 hlive he))
        rw [hlen] at hs4
        have hv1 : v1 = .slice s.bl.length 0 (n + m) none ∧ s1.drop j = (s.drop j).pushB (.cells (l.take (n * i.size) ++ news) e' (some i.size)) := by
          unfold growS at hg2
          split at hg2
          · simp only [Option.some.injEq, Prod.mk.injEq] at hg2
            exact ⟨by rw [← hg2.1, hlen], hg2.2.symm⟩
          · cases hg2
        refine ⟨bnew β s.bl.length (β j).1 q, _, ?_, by rw [hv1.2]; exact hs4, ?_⟩
        · rw [hv1.1]
          simp only [SV.den, bnew, if_true, Option.getD_none]
          rw [show (SV.denL ρ β l ++ tl).toArray.toList = SV.denL ρ β l ++ tl from rfl] at hr
          exact hr
        · rw [hv1.2]
          refine ⟨fun k hk => by simp [bnew]; omega, fun k hk hl => ?_, fun k hk hl => ?_, by simp [World.setRow], fun b hb hn => hw b (fun e => hn j hlive e.symm), by simp [St.pushB, St.drop], rfl, rfl, rfl⟩
          · rcases live_pushB hl with hl | rfl
            · exact (live_drop.1 hl).1
            · simp [St.drop] at hk
          · rcases live_pushB hl with hl | rfl
            · have := live_lt (live_drop.1 hl).1; omega
            · exact .inr ⟨j, hlive, by simp [bnew, St.drop]⟩
      · -- it grows
        have hr := run_append_grow (P := cx.P) w t ty e' i zv (cx.undOk _ _ hu) (cx.infOk _ _ hi) hz ⟨(β j).1, 0, none⟩ n q (SV.denL ρ β (l.take (n * i.size))) hxs hxc ⟨(β jj).1, off, none⟩ m (cc.getD (β jj).2) (SV.denL ρ β news) hnl hnc
          (by omega) (by omega) (growslice_fits (by omega) (by have := Nat.mul_le_mul hnm hby; omega))
        have hge := grownCap_ge w (n + m) q e'
        have hle := grownCap_le_maxLen w (n + m) q e' (by unfold maxLen; omega)
        obtain ⟨β', h1, h2, h3⟩ := growS_new hs2 (by simp only [St.drop, List.length_set]; exact drop_sc hsc) hg2 (Builtin.zeroCells zv.cells (grownCap w (n + m) q e' - (n + m))).toList (grownCap w (n + m) q e') (by
          simp only [denL_append, List.length_append, hxs, hnl, Array.length_toList, size_zeroCells, hzs, ← Nat.add_mul]; congr 1; omega) hle
        refine ⟨β', _, ?_, h2, (Ext.drop s j β w).trans h3⟩
        rw [h1]
        rw [hr, List.append_toArray, toArr, denL_append]
    · cases h

end Go.Eng
