/-
  A symbolic executor, part E: operations that build values and make memory.
-/
import Derived.Test.YtjooaieolphomaaEngD
import Derived.Laws.Tables
set_option linter.unusedVariables false
set_option linter.unusedSimpArgs false
namespace Go.Eng

/-! ### structs and arrays that are built -/

def setL (cs : List SV) (off : Nat) : List SV → List SV
  | [] => cs
  | x :: l => setL (cs.set off x) (off + 1) l

def fillS (place : Nat → Option (Nat × Nat)) (cs : List SV) : List (Nat × SV) → Option (List SV)
  | [] => some cs
  | (i, v) :: rest =>
    match place i, v.cells with
    | some (off, size), some l => if l.length = size ∧ off + l.length ≤ cs.length then fillS place (setL cs off l) rest else none
    | _, _ => none

theorem setL_length (off : Nat) (l cs : List SV) : (setL cs off l).length = cs.length := by
  induction l generalizing cs off with
  | nil => rfl
  | cons x l ih => simp [setL, ih]

theorem setL_fold (ρ : Env) (β : Nat → Nat × Nat) (off : Nat) : ∀ (l : List SV) (k : Nat) (cs : List SV),
    (((SV.denL ρ β l).zipIdx k).foldl (fun a (p : Value × Nat) => a.setIfInBounds (off + p.2) p.1) (SV.denL ρ β cs).toArray) = (SV.denL ρ β (setL cs (off + k) l)).toArray
  | [], k, cs => by simp [SV.denL, setL]
  | x :: l, k, cs => by
    simp only [SV.denL, List.zipIdx_cons, List.foldl_cons, setL]
    have := setL_fold ρ β off l (k + 1) (cs.set (off + k) x)
    rw [denL_set] at this
    rw [show (SV.denL ρ β cs).toArray.setIfInBounds (off + k) (SV.den ρ β x) = ((SV.denL ρ β cs).set (off + k) (SV.den ρ β x)).toArray by simp]
    rw [this, Nat.add_assoc]

theorem fillS_ok {cx : Cx} {ρ : Env} (hρ : EnvOk cx ρ) (β : Nat → Nat × Nat) {place : Nat → Option (Nat × Nat)} : ∀ (parts : List (Nat × SV)) (cs out : List SV), fillS place cs parts = some out →
    Instr.fill place (SV.denL ρ β cs).toArray (parts.map fun p => (p.1, p.2.den ρ β)) = some (SV.denL ρ β out).toArray
  | [], cs, out, h => by cases h; rfl
  | (i, v) :: rest, cs, out, h => by
    simp only [fillS] at h
    split at h
    · rename_i off size l hp hc
      split at h
      · rename_i hb
        obtain ⟨hc1, _⟩ := SV.cells_den hρ β hc
        have ih := fillS_ok hρ β rest _ out h
        simp only [List.map_cons, Instr.fill, hp, hc1]
        have hsz : (SV.denL ρ β l).toArray.size = l.length := by simp
        rw [hsz]
        simp only [List.size_toArray, denL_length]
        have hcond : (decide (l.length ≠ size) || decide (off + l.length > cs.length)) = false := by
          simp [hb.1]; omega
        rw [if_neg (by simpa using by omega)]
        have hf := setL_fold ρ β off l 0 cs
        rw [Nat.add_zero] at hf
        rw [← ih, ← hf]
        congr 1
        rw [← Array.foldl_toList]
        simp
      · cases h
    · cases h

def zeroS (cx : Cx) (t : TypeId) : Option SV := match cx.inf t with
  | some i => i.zero.map toS
  | none => none
def zeroCellsS (cx : Cx) (t : TypeId) : Option (List SV) := match cx.inf t with
  | some i => match i.zero with
    | some z => (toS z).cells
    | none => none
  | none => none

theorem zeroS_ok {cx : Cx} {ρ : Env} {β : Nat → Nat × Nat} {w : World} {t : TypeId} {v : SV} (h : zeroS cx t = some v) : (zeroValue t).run cx.P w = .ok (v.den ρ β) w := by
  unfold zeroS at h
  split at h
  · rename_i i hi
    obtain ⟨z, hz, rfl⟩ := Option.map_eq_some_iff.1 h
    simp [zeroValue, run_typeInfo_of hi, hz, toS_den]
  · cases h

def buildS (cx : Cx) (t : TypeId) (parts : List (Nat × SV)) : Option SV :=
  match cx.inf t, cx.und t with
  | some it, some (.array _ e) =>
    match it.zero, cx.inf e with
    | some z, some ie => match (toS z).cells with
      | some cs => (fillS (fun i => some (i * ie.size, ie.size)) cs parts).map .agg
      | none => none
    | _, _ => none
  | some it, some (.struct fields) =>
    match it.zero, fields.toList.mapM (fun f => (cx.inf f.type).map fun i => (f.offset, i.size)) with
    | some z, some places => match (toS z).cells with
      | some cs => (fillS (places.toArray[·]?) cs parts).map .agg
      | none => none
    | _, _ => none
  | _, _ => none

theorem mapM_weak {α γ : Type} {f g : α → Option γ} (h : ∀ a c, f a = some c → g a = some c) : ∀ (l : List α) {r : List γ}, l.mapM f = some r → l.mapM g = some r
  | [], r, hr => hr
  | a :: l, r, hr => by
    rw [List.mapM_cons] at hr ⊢
    cases hf : f a with
    | none => rw [hf] at hr; cases hr
    | some c =>
      rw [hf] at hr
      rw [h a c hf]
      cases hl : l.mapM f with
      | none => rw [hl] at hr; cases hr
      | some r' => rw [hl] at hr; rw [mapM_weak h l hl]; exact hr

theorem buildS_ok {cx : Cx} {ρ : Env} (hρ : EnvOk cx ρ) {β : Nat → Nat × Nat} {w : World} {t : TypeId} {parts : List (Nat × SV)} {v : SV} (h : buildS cx t parts = some v) :
    (Instr.build t (parts.map fun p => (p.1, p.2.den ρ β)).toArray).run cx.P w = .ok (v.den ρ β) w := by
  have hz : ∀ (z : Value) (cs : List SV), (toS z).cells = some cs → z.cells = (SV.denL ρ β cs).toArray := by
    intro z cs hc
    have := (SV.cells_den hρ β hc).1
    rwa [toS_den] at this
  unfold buildS at h
  split at h
  · rename_i it n e hit hu
    split at h
    · rename_i z ie hzz hie
      split at h
      · rename_i cs hcs
        obtain ⟨out, ho, rfl⟩ := Option.map_eq_some_iff.1 h
        refine run_build w t _ (SV.denL ρ β out).toArray ?_
        simp only [Program.built, cx.infOk _ _ hit, cx.undOk _ _ hu, hzz, cx.infOk _ _ hie, hz z cs hcs]
        exact fillS_ok hρ β parts cs out ho
      · cases h
    · cases h
  · rename_i it fields hit hu
    split at h
    · rename_i z places hzz hpl
      split at h
      · rename_i cs hcs
        obtain ⟨out, ho, rfl⟩ := Option.map_eq_some_iff.1 h
        refine run_build w t _ (SV.denL ρ β out).toArray ?_
        have hpl' : fields.toList.mapM (fun f => (cx.P.info? f.type).map fun i => (f.offset, i.size)) = some places := by
          refine mapM_weak (fun a c hc => ?_) _ hpl
          obtain ⟨i, hi, rfl⟩ := Option.map_eq_some_iff.1 hc
          rw [cx.infOk _ _ hi]
          rfl
        simp only [Program.built, cx.infOk _ _ hit, cx.undOk _ _ hu, hzz, hpl', hz z cs hcs]
        exact fillS_ok hρ β parts cs out ho
      · cases h
    · cases h
  · cases h

/-! ### new blocks -/

/-- what is known after a new block -/
def newS (s : St) (l : List SV) (e : TypeId) : Option (SV × St) :=
  if s.sc s.bl.length && SV.scL s.bl.length l then some (.ptr s.bl.length 0, s.push l e) else none

theorem newS_ok {ρ : Env} {β : Nat → Nat × Nat} {s s' : St} {w : World} {l : List SV} {e : TypeId} {v : SV} (hs : Sat ρ β s w) (h : newS s l e = some (v, s')) :
    ∃ β', v.den ρ β' = .pointer (some ⟨w.heap.size, 0, none⟩) ∧ (β' s.bl.length).1 = w.heap.size ∧ v = .ptr s.bl.length 0 ∧
      Sat ρ β' s' (w.alloc (.cells (SV.denL ρ β l).toArray e)) ∧ Ext s s' β β' w (w.alloc (.cells (SV.denL ρ β l).toArray e)) := by
  unfold newS at h
  split at h <;> cases h
  rename_i hc
  simp only [Bool.and_eq_true] at hc
  obtain ⟨h1, h2⟩ := hs.push (e := e) hc.1 hc.2
  exact ⟨_, by simp [SV.den, bnew], by simp [bnew], rfl, h1, h2⟩

def boxS (e : TypeId) (v : SV) (s : St) : Option (SV × St) :=
  match v.cells with
  | some l => newS s l e
  | none => none

theorem boxS_ok {cx : Cx} {ρ : Env} (hρ : EnvOk cx ρ) {β : Nat → Nat × Nat} {s s' : St} {w : World} {e : TypeId} {v r : SV} (hs : Sat ρ β s w) (h : boxS e v s = some (r, s')) :
    ∃ β' w', (newVar e (v.den ρ β)).run cx.P w = .ok ⟨w.heap.size, 0, none⟩ w' ∧ r.den ρ β' = .pointer (some ⟨w.heap.size, 0, none⟩) ∧ Sat ρ β' s' w' ∧ Ext s s' β β' w w' := by
  unfold boxS at h
  split at h
  · rename_i l hl
    obtain ⟨β', h1, _, _, h2, h3⟩ := newS_ok hs h
    refine ⟨β', _, ?_, h1, h2, h3⟩
    simp [newVar, newRow, (SV.cells_den hρ β hl).1]
  · cases h

def repL (n : Nat) (l : List SV) : List SV := (List.range n).map fun i => l.getD (i % l.length) undefS

/-- 'make' and the literal of a slice: a row of so many elements -/
def rowS (cx : Cx) (t : TypeId) (len : Nat) (parts : List (Nat × SV)) (s : St) : Option (SV × St) :=
  match cx.und t with
  | some (.slice e) => match szT cx e, zeroCellsS cx e with
    | some z, some zs =>
      if zs.length = z ∧ len * z ≤ 16777216 ∧ 0 < z then
        match fillS (fun i => some (i * z, z)) (repL (len * z) zs) parts with
        | some l => match newS s l e with
          | some (_, s') => some (.slice s.bl.length 0 len (some len), s')
          | none => none
        | none => none
      else none
    | _, _ => none
  | _ => none

/-- the same: the elements' type, and the cells -/
def rowC (cx : Cx) (t : TypeId) (len : Nat) (parts : List (Nat × SV)) : Option (TypeId × List SV) :=
  match cx.und t with
  | some (.slice e) => match szT cx e, zeroCellsS cx e with
    | some z, some zs =>
      if zs.length = z ∧ len * z ≤ 16777216 ∧ 0 < z then
        match fillS (fun i => some (i * z, z)) (repL (len * z) zs) parts with
        | some l => some (e, l)
        | none => none
      else none
    | _, _ => none
  | _ => none

theorem rowC_ok {cx : Cx} {ρ : Env} (hρ : EnvOk cx ρ) {β : Nat → Nat × Nat} {w : World} {t : TypeId} {len : Nat} {parts : List (Nat × SV)} {e : TypeId} {l : List SV}
    (h : rowC cx t len parts = some (e, l)) :
    (Instr.buildSlice t len (parts.map fun p => (p.1, p.2.den ρ β)).toArray).run cx.P w = .ok (.slice (some ⟨w.heap.size, 0, none⟩) len len) (w.alloc (.cells (SV.denL ρ β l).toArray e)) := by
  unfold rowC at h
  split at h
  · rename_i e hu
    split at h
    · rename_i z zs hz hzs
      split at h
      · rename_i hb
        split at h
        · rename_i l hl
          cases h
          unfold zeroCellsS at hzs
          split at hzs
          · rename_i i hi
            split at hzs
            · rename_i zv hzv
              have hzc : zv.cells = (SV.denL ρ β zs).toArray := by
                have := (SV.cells_den hρ β hzs).1
                rwa [toS_den] at this
              have hrep : (Array.range (len * z)).map (fun j => (if len * z = 0 then #[] else zv.cells)[j % (if len * z = 0 then #[] else zv.cells).size]!) = (SV.denL ρ β (repL (len * z) zs)).toArray := by
                apply Array.ext
                · simp [repL, denL_map]
                · intro j hj1 hj2
                  have hpos : len * z ≠ 0 := by simp at hj1; omega
                  simp only [hpos, if_false, hzc]
                  have hlt : j % zs.length < zs.length := Nat.mod_lt _ (by omega)
                  simp [repL, denL_map, hlt]
              have hfill := fillS_ok hρ β parts _ l hl
              simp only [Instr.buildSlice, Sem.run_bind, run_und hu, Result.andThen_ok, run_sizeOf_of hz]
              rw [if_neg (by omega)]
              by_cases h0 : len * z = 0
              · rw [if_pos h0] at hrep
                simp only [h0, if_true, Sem.run_bind, Sem.run_pure, Result.andThen_ok] at hrep ⊢
                rw [hrep]
                rw [h0] at hfill
                simp [hfill, newRow]
              · rw [if_neg h0] at hrep
                simp only [h0, if_false, Sem.run_bind, Sem.run_pure, Result.andThen_ok, zeroValue, run_typeInfo_of hi, hzv] at hrep ⊢
                rw [hrep]
                simp [hfill, newRow]
            · cases hzs
          · cases hzs
        · cases h
      · cases h
    · cases h
  · cases h

theorem rowS_ok {cx : Cx} {ρ : Env} (hρ : EnvOk cx ρ) {β : Nat → Nat × Nat} {s s' : St} {w : World} {t : TypeId} {len : Nat} {parts : List (Nat × SV)} {r : SV} (hs : Sat ρ β s w)
    (h : rowS cx t len parts s = some (r, s')) :
    ∃ β' w', (Instr.buildSlice t len (parts.map fun p => (p.1, p.2.den ρ β)).toArray).run cx.P w = .ok (r.den ρ β') w' ∧ Sat ρ β' s' w' ∧ Ext s s' β β' w w' := by
  unfold rowS at h
  split at h
  · rename_i e hu
    split at h
    · rename_i z zs hz hzs
      split at h
      · rename_i hb
        split at h
        · rename_i l hl
          split at h
          · rename_i p s1 hn
            cases h
            obtain ⟨β', _, h1, _, h2, h3⟩ := newS_ok hs hn
            unfold zeroCellsS at hzs
            split at hzs
            · rename_i i hi
              split at hzs
              · rename_i zv hzv
                have hzc : zv.cells = (SV.denL ρ β zs).toArray := by
                  have := (SV.cells_den hρ β hzs).1
                  rwa [toS_den] at this
                have hrep : (Array.range (len * z)).map (fun j => (if len * z = 0 then #[] else zv.cells)[j % (if len * z = 0 then #[] else zv.cells).size]!) = (SV.denL ρ β (repL (len * z) zs)).toArray := by
                  apply Array.ext
                  · simp [repL, denL_map]
                  · intro j hj1 hj2
                    have hpos : len * z ≠ 0 := by simp at hj1; omega
                    simp only [hpos, if_false, hzc]
                    have hlt : j % zs.length < zs.length := Nat.mod_lt _ (by omega)
                    simp [repL, denL_map, hlt]
                have hfill := fillS_ok hρ β parts _ l hl
                refine ⟨β', _, ?_, h2, h3⟩
                simp only [Instr.buildSlice, Sem.run_bind, run_und hu, Result.andThen_ok, run_sizeOf_of hz]
                rw [if_neg (by omega)]
                by_cases h0 : len * z = 0
                · rw [if_pos h0] at hrep
                  simp only [h0, if_true, Sem.run_bind, Sem.run_pure, Result.andThen_ok] at hrep ⊢
                  rw [hrep]
                  rw [h0] at hfill
                  simp [hfill, newRow, SV.den, h1]
                · rw [if_neg h0] at hrep
                  simp only [h0, if_false, Sem.run_bind, Sem.run_pure, Result.andThen_ok, zeroValue, run_typeInfo_of hi, hzv] at hrep ⊢
                  rw [hrep]
                  simp [hfill, newRow, SV.den, h1]
              · cases hzs
            · cases hzs
          · cases h
        · cases h
      · cases h
    · cases h
  · cases h

end Go.Eng
