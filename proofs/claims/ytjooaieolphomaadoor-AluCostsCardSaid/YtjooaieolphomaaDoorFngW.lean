/-
  A symbolic executor, part W: rows of a length that is not known: places, what is read and written there.
-/
import Derived.Test.YtjooaieolphomaaDoorFngV
set_option linter.unusedVariables false
set_option linter.unusedSimpArgs false
namespace Go.Eng

/-! ### what must hold -/

/-- it must hold: else the run is bad -/
def obl {α : Type} (s : St) (e : E) (k : St → T α) : T α := fork s e k (fun _ => .bad 200)
theorem obl_ok {ρ : Env} {β : Bt} {s : St} {w : World} (h : Sat ρ β s w) {α : Type} {e : E} {k : St → T α} {r : α} (hr : (obl s e k).sel ρ = some r) :
    ∃ s1, s1.bl = s.bl ∧ Sat ρ β s1 w ∧ e.ev ρ ≠ 0 ∧ (k s1).sel ρ = some r := by
  obtain ⟨s1, h1, h2, ⟨h3, h4⟩ | ⟨_, h4⟩⟩ := fork_ok h hr
  · exact ⟨s1, h1, h2, h3, h4⟩
  · cases h4

def leE (cx : Cx) (x y : E) : E := E.b' cx .le .i64 x y
def ltE (cx : Cx) (x y : E) : E := E.b' cx .lt .i64 x y
def addE (x y : E) : E := E.pl .padd x y
def subE (x y : E) : E := E.pl .psub x y
section
variable {cx : Cx} {ρ : Env} (hρ : EnvOk cx ρ)
include hρ
theorem leE_ne {x y : E} (h : (leE cx x y).ev ρ ≠ 0) : x.ev ρ ≤ y.ev ρ := by
  unfold leE at h; rw [E.b'_ev hρ] at h; simp only [BO.ev, bool01] at h
  by_cases hh : x.ev ρ ≤ y.ev ρ
  · exact hh
  · simp [hh] at h
theorem ltE_ne {x y : E} (h : (ltE cx x y).ev ρ ≠ 0) : x.ev ρ < y.ev ρ := by
  unfold ltE at h; rw [E.b'_ev hρ] at h; simp only [BO.ev, bool01] at h
  by_cases hh : x.ev ρ < y.ev ρ
  · exact hh
  · simp [hh] at h
omit hρ in
theorem addE_ev (x y : E) : (addE x y).ev ρ = x.ev ρ + y.ev ρ := E.pl_ev _ _ _ _
omit hρ in
theorem subE_ev (x y : E) : (subE x y).ev ρ = x.ev ρ - y.ev ρ := E.pl_ev _ _ _ _
end

/-! ### rows -/

def rowOf (cx : Cx) (s : St) : Bs → Option (List CK × E × E)
  | .own j => match s.bl[j]? with
    | some (.arr cks _ q n) => some (cks, q, n)
    | _ => none
  | .inp k => match cx.ins[k]? with
    | some d => some (d.cks, d.c, d.n)
    | none => none

noncomputable def bsAddr (ρ : Env) (β : Bt) : Bs → Option Addr
  | .own j => if (β j).2.1 = 0 then none else some ⟨(β j).1, 0, none⟩
  | .inp k => (ρ.ro k).a

noncomputable def slCap (ρ : Env) (β : Bt) (b : Bs) (cap : Option E) : Nat :=
  match cap with
  | some q => (q.ev ρ).toNat
  | none => match b with
    | .own j => (β j).2.1 - 1
    | .inp k => (ρ.ro k).cap

theorem sl_den (ρ : Env) (β : Bt) (b : Bs) (z : Nat) (off len : E) (cap : Option E) :
    (SV.sl b z off len cap).den ρ β = .slice ((bsAddr ρ β b).map (·.add ((off.ev ρ).toNat * z))) (len.ev ρ).toNat (slCap ρ β b cap) := by
  cases b with
  | own j =>
    simp only [SV.den, bsAddr, slCap]
    split
    · rfl
    · simp only [Option.map_some, addr_add, Nat.zero_add]; rfl
  | inp k => rfl

theorem ep_den (ρ : Env) (β : Bt) (b : Bs) (z : Nat) (i : E) (f : Nat) {a : Addr} (h : bsAddr ρ β b = some a) :
    (SV.ep b z i f).den ρ β = .pointer (some (a.add ((i.ev ρ).toNat * z + f))) := by
  cases b with
  | own j =>
    simp only [bsAddr] at h
    split at h <;> cases h
    simp only [SV.den, addr_add, Nat.zero_add]
  | inp k => simp only [bsAddr] at h; simp only [SV.den, h, Option.map_some]

theorem addr_add2 (a : Addr) (m n : Nat) : (a.add m).add n = a.add (m + n) := by
  unfold Addr.add
  by_cases h1 : m = 0 <;> by_cases h2 : n = 0 <;> simp [h1, h2, Nat.add_assoc]

/-- a part within the row lies there -/
theorem row_cell {cx : Cx} {ρ : Env} (hρ : EnvOk cx ρ) {β : Bt} {s : St} {w : World} (hs : Sat ρ β s w) {b : Bs} {cks : List CK} {q n : E} (h : rowOf cx s b = some (cks, q, n)) {i : Nat} (hi : i < (n.ev ρ).toNat) :
    ∃ a, bsAddr ρ β b = some a ∧ ∀ (r : Nat) (x : Value), (elemV cks (rdZ (q.ev ρ) i))[r]? = some x → w.cell? (a.add (i * cks.length + r)) = some x := by
  have hget : ∀ (r : Nat) (x : Value), (elemV cks (rdZ (q.ev ρ) i))[r]? = some x → (rowV cks (q.ev ρ) (n.ev ρ).toNat)[i * cks.length + r]? = some x := by
    intro r x hx
    have hr : r < cks.length := by
      have := (List.getElem?_eq_some_iff.1 hx).1
      rwa [elemV_len] at this
    rw [rowV_get cks (q.ev ρ) hi hr]; exact hx
  cases b with
  | own j =>
    simp only [rowOf] at h
    split at h
    · rename_i cks' e q' n' hj
      cases h
      have hb := hs.blk j _ hj
      rcases hb with ⟨_, h0⟩ | ⟨tl, h1, h2, h3, h4⟩
      · omega
      · refine ⟨⟨(β j).1, 0, none⟩, by simp only [bsAddr]; rw [if_neg (by omega)], fun r x hx => ?_⟩
        rw [addr_add, Nat.zero_add]
        simp only [World.cell?, h2, Option.isSome_none, Bool.false_eq_true, if_false, List.getElem?_toArray]
        have hg := hget r x hx
        rw [List.getElem?_append_left ((List.getElem?_eq_some_iff.1 hg).1)]
        exact hg
    · cases h
  | inp k =>
    simp only [rowOf] at h
    split at h
    · rename_i d hd
      cases h
      obtain ⟨h1, h2, h3, _, h5, _⟩ := hρ.hro k d hd
      cases ha : (ρ.ro k).a with
      | none => have := h5 ha; omega
      | some a =>
        refine ⟨a, by simp only [bsAddr, ha], fun r x hx => ?_⟩
        have hg := hget r x hx
        rw [← h1, ← h2, ← h3] at hg
        have := (hs.ro k a _ x ha hg).1
        rwa [h1] at this
    · cases h

/-! ### the address of a part -/

def findG (g : Nat) : List InD → Nat → Option Nat
  | [], _ => none
  | d :: l, k => if d.g = some g then some k else findG g l (k + 1)
theorem findG_ok {g : Nat} : ∀ {l : List InD} {k0 k : Nat}, findG g l k0 = some k → ∃ d, l[k - k0]? = some d ∧ k0 ≤ k ∧ d.g = some g
  | [], _, _, h => by cases h
  | d :: l, k0, k, h => by
    simp only [findG] at h
    split at h
    · rename_i hd
      cases h
      exact ⟨d, by simp, Nat.le_refl _, hd⟩
    · obtain ⟨d', h1, h2, h3⟩ := findG_ok h
      refine ⟨d', ?_, by omega, h3⟩
      rw [show k - k0 = (k - (k0 + 1)) + 1 by omega]
      simpa using h1

def iaddrT (cx : Cx) (t : TypeId) (x ix : SV) (s : St) : R :=
  match cx.und t, x, ix with
  | some (.slice el), .sl b z off len _, .int _ i =>
    (match rowOf cx s b with
    | some (cks, _, n) =>
      if szT cx el = some z && cks.length == z && lo0 (off.iv cx) then
        obl s (leE cx (.c 0) i) fun s => obl s (ltE cx i len) fun s => obl s (ltE cx (addE off i) n) fun s => ret s (.ep b z (addE off i) 0)
      else .bad 201
    | none => .bad 202)
  | some (.array len el), .lit (.pointer (some ⟨g, 0, none⟩)), .int _ i =>
    (match findG g cx.ins 0 with
    | some k => if szT cx el = some 1 then
        obl s (leE cx (.c 0) i) fun s => obl s (ltE cx i (.c len)) fun s => ret s (.ep (.inp k) 1 i 0)
      else .bad 203
    | none => .bad 204)
  | some (.array len el), .ptr j off, .int _ i =>
    (match constE i with
    | some _ => (match iaddrS cx t x ix with
      | some v => ret s v
      | none => .bad 205)
    | none => match szT cx el with
      | some z => obl s (leE cx (.c 0) i) fun s => obl s (ltE cx i (.c len)) fun s => ret s (.cp j off z len i)
      | none => .bad 206)
  | _, _, _ => (match iaddrS cx t x ix with
      | some v => ret s v
      | none => .bad 207)

theorem ext_kn2 {s s1 : St} (e : s1.bl = s.bl) (β : Bt) (w : World) : Ext s s1 β β w w := by
  have hl : ∀ j, live β s1 j ↔ live β s j := fun j => by unfold live; rw [e]
  exact ⟨fun _ _ => rfl, fun j _ h => (hl j).1 h, fun j hj h => absurd (live_lt ((hl j).1 h)) (by omega), Nat.le_refl _, fun _ _ _ => rfl, by rw [e]; exact Nat.le_refl _, rfl, rfl, rfl⟩

/-- what an operation that looks comes to -/
def LookOk (cx : Cx) (ρ : Env) (β : Bt) (s s' : St) (w : World) (m : Sem Value) (v : SV) : Prop :=
  m.run cx.P w = .ok (v.den ρ β) w ∧ s'.bl = s.bl ∧ Sat ρ β s' w

section
variable {cx : Cx} {ρ : Env} (hρ : EnvOk cx ρ) {β : Bt} {s s' : St} {w : World}
include hρ

theorem iaddrT_ok (hs : Sat ρ β s w) {t : TypeId} {X I v : SV} (h : (iaddrT cx t X I s).sel ρ = some (v, s')) :
    LookOk cx ρ β s s' w (Instr.indexAt t (X.den ρ β) (I.den ρ β)) v := by
  have old : ∀ {u}, (match iaddrS cx t X I with
      | some v => ret s v
      | none => (.bad u : R)).sel ρ = some (v, s') → LookOk cx ρ β s s' w (Instr.indexAt t (X.den ρ β) (I.den ρ β)) v := by
    intro u h
    split at h
    · rename_i r hr
      cases h
      exact ⟨iaddrS_ok hr, rfl, hs⟩
    · cases h
  unfold iaddrT at h
  split at h
  · rename_i el b z off len cap k i hu
    split at h
    · rename_i cks q n hrow
      split at h
      · rename_i hc
        simp only [Bool.and_eq_true, decide_eq_true_eq, beq_iff_eq] at hc
        obtain ⟨⟨hz, hzl⟩, hoff⟩ := hc
        obtain ⟨s1, e1, hs1, h1, h⟩ := obl_ok hs h
        obtain ⟨s2, e2, hs2, h2, h⟩ := obl_ok hs1 h
        obtain ⟨s3, e3, hs3, h3, h⟩ := obl_ok hs2 h
        cases h
        have g1 := leE_ne hρ h1
        have g2 := ltE_ne hρ h2
        have g3 := ltE_ne hρ h3
        have g0 := lo0_ok hoff (E.iv_ok hρ off)
        simp only [E.ev] at g1
        rw [addE_ev] at g3
        obtain ⟨a, ha, _⟩ := row_cell hρ hs hrow (i := ((addE off i).ev ρ).toNat) (by rw [addE_ev]; omega)
        refine ⟨?_, e3.trans (e2.trans e1), hs3⟩
        rw [sl_den ρ β b z off len cap, ep_den ρ β b z _ 0 ha, ha]
        simp only [SV.den, Instr.indexAt, asIntOf, Sem.run_bind, Sem.run_pure, Result.andThen_ok, run_und hu, Option.map_some, run_sizeOf_of hz]
        have hb : (0 : Int) ≤ i.ev ρ ∧ i.ev ρ < ((len.ev ρ).toNat : Int) := by omega
        rw [if_pos hb]
        simp only [Sem.run_bind, run_sizeOf_of hz, Result.andThen_ok, Sem.run_pure, addr_add2, addE_ev]
        congr 4
        rw [Int.toNat_add g0 g1, Nat.add_mul, Nat.add_zero]
      · cases h
    · cases h
  · rename_i len el g k i hu
    split at h
    · rename_i kk hk
      split at h
      · rename_i hz
        obtain ⟨s1, e1, hs1, h1, h⟩ := obl_ok hs h
        obtain ⟨s2, e2, hs2, h2, h⟩ := obl_ok hs1 h
        cases h
        have g1 := leE_ne hρ h1
        have g2 := ltE_ne hρ h2
        simp only [E.ev] at g1 g2
        obtain ⟨d, hd, _, hg⟩ := findG_ok hk
        obtain ⟨_, _, _, _, _, h6⟩ := hρ.hro kk d (by simpa using hd)
        refine ⟨?_, e2.trans e1, hs2⟩
        rw [ep_den ρ β (.inp kk) 1 i 0 (a := ⟨g, 0, none⟩) (by simp only [bsAddr, h6 g hg])]
        simp only [SV.den, Instr.indexAt, asIntOf, Sem.run_bind, Sem.run_pure, Result.andThen_ok, run_und hu, Instr.sureAddr, run_sizeOf_of hz]
        rw [if_pos ⟨g1, g2⟩]
        simp [run_sizeOf_of hz]
      · cases h
    · cases h
  · rename_i len el j off k i hu
    split at h
    · exact old h
    · split at h
      · rename_i z hz
        obtain ⟨s1, e1, hs1, h1, h⟩ := obl_ok hs h
        obtain ⟨s2, e2, hs2, h2, h⟩ := obl_ok hs1 h
        cases h
        have g1 := leE_ne hρ h1
        have g2 := ltE_ne hρ h2
        simp only [E.ev] at g1 g2
        refine ⟨?_, e2.trans e1, hs2⟩
        simp only [SV.den, Instr.indexAt, asIntOf, Sem.run_bind, Sem.run_pure, Result.andThen_ok, run_und hu, Instr.sureAddr, run_sizeOf_of hz]
        rw [if_pos ⟨g1, g2⟩]
        simp [run_sizeOf_of hz, addr_add]
      · cases h
  · exact old h

end

/-! ### what is read -/

/-- what cells hold, as the parts of a row of numbers: the make, and the row's number -/
def ckOfV : SV → Option CK
  | .int k _ => some (.int k)
  | .bool _ => some .bool
  | .str _ => some .str
  | .lit (.string _) => some .str
  | _ => none
def rdBase : E → Option E
  | .f 13 q (.c 0) _ => some q
  | .w _ (.f 13 q (.c 0) _) => some q
  | _ => none
def baseOfV : SV → Option E
  | .int _ e => rdBase e
  | .bool e => rdBase e
  | .str e => rdBase e
  | _ => none
/-- the cells hold just the parts of this row -/
def isRow (cx : Cx) (k : CK) (q : E) : Nat → List SV → Bool
  | _, [] => true
  | r, x :: l => (ckS cx k (E.rdA q (.c r))).beq x && isRow cx k q (r + 1) l
def gather (cx : Cx) (l : List SV) : Option (CK × E) :=
  match l with
  | [] => none
  | x :: _ => match ckOfV x with
    | none => none
    | some k => match baseOfV x with
      | some q => if isRow cx k q 0 l then some (k, q) else (codeL cx (l.map fun _ => k) l).map fun es => (k, listE es)
      | none => (codeL cx (l.map fun _ => k) l).map fun es => (k, listE es)

theorem isRow_ok {cx : Cx} {ρ : Env} (hρ : EnvOk cx ρ) (β : Bt) {k : CK} {q : E} : ∀ {l : List SV} {r : Nat}, isRow cx k q r l = true → ∀ i, i < l.length → (SV.denL ρ β l)[i]? = some (ckV k (rdZ (q.ev ρ) ((r + i : Nat) : Int)))
  | [], r, _, i, hi => by simp at hi
  | x :: l, r, h, 0, hi => by
    simp only [isRow, Bool.and_eq_true] at h
    rw [← SV.eq_of_beq _ _ h.1]
    simp [SV.denL, ckS_den hρ, E.rdA_ev hρ, E.ev]
  | x :: l, r, h, i + 1, hi => by
    simp only [isRow, Bool.and_eq_true] at h
    have := isRow_ok hρ β h.2 i (by simpa using hi)
    simp only [SV.denL, List.getElem?_cons_succ, this]
    rw [show r + 1 + i = r + (i + 1) by omega]

theorem gather_ok {cx : Cx} {ρ : Env} (hρ : EnvOk cx ρ) (β : Bt) {l : List SV} {k : CK} {q : E} (h : gather cx l = some (k, q)) : ∀ i, i < l.length → (SV.denL ρ β l)[i]? = some (ckV k (rdZ (q.ev ρ) i)) := by
  have list : ∀ {k : CK}, (codeL cx (l.map fun _ => k) l).map (fun es => (k, listE es)) = some (k, q) → ∀ i, i < l.length → (SV.denL ρ β l)[i]? = some (ckV k (rdZ (q.ev ρ) i)) := by
    intro k h i hi
    obtain ⟨es, hes, he⟩ := Option.map_eq_some_iff.1 h
    cases he
    obtain ⟨g1, g2, g3⟩ := codeL_den hρ β hes
    rw [g3 i k (by simp [hi])]
    simp only [List.length_map] at g2
    rw [List.getElem?_eq_getElem (by omega : i < es.length), listE_ev hρ, List.getElem?_eq_getElem (by omega : i < es.length)]
    rfl
  unfold gather at h
  split at h
  · cases h
  · rename_i x l'
    split at h
    · cases h
    · rename_i k' hk'
      split at h
      · rename_i q' hq'
        split at h
        · rename_i hr
          cases h
          intro i hi
          have := isRow_ok hρ β hr i hi
          simpa using this
        · have : k' = k := by
            obtain ⟨es, _, he⟩ := Option.map_eq_some_iff.1 h
            cases he; rfl
          subst this
          exact list h
      · have : k' = k := by
          obtain ⟨es, _, he⟩ := Option.map_eq_some_iff.1 h
          cases he; rfl
        subst this
        exact list h

def loadT (cx : Cx) (t : TypeId) (x : SV) (s : St) : R :=
  match x with
  | .ep b z i f =>
    (match rowOf cx s b with
    | some (cks, q, n) =>
      if cks.length == z then
        obl s (leE cx (.c 0) i) fun s => obl s (ltE cx i n) fun s =>
        (match isAggT cx t, szT cx t with
        | some true, some m => if f + m ≤ z then ret s (.agg (((elemS cx cks (E.rdA q i)).drop f).take m)) else .bad 210
        | some false, _ => (match (elemS cx cks (E.rdA q i))[f]? with
          | some v => ret s v
          | none => .bad 211)
        | _, _ => .bad 212)
      else .bad 213
    | none => .bad 214)
  | .cp j base 1 len i =>
    (match isAggT cx t, s.cellN j base len with
    | some false, some l => (match gather cx l with
      | some (k, q) => obl s (leE cx (.c 0) i) fun s => obl s (ltE cx i (.c len)) fun s => ret s (ckS cx k (E.rdA q i))
      | none => .bad 215)
    | _, _ => .bad 216)
  | x => (match loadS cx t x s with
    | some v => ret s v
    | none => .bad 217)

section
variable {cx : Cx} {ρ : Env} (hρ : EnvOk cx ρ) {β : Bt} {s s' : St} {w : World}
include hρ

theorem loadT_ok (hs : Sat ρ β s w) {t : TypeId} {X v : SV} (h : (loadT cx t X s).sel ρ = some (v, s')) : LookOk cx ρ β s s' w (Instr.loadAt t (X.den ρ β)) v := by
  unfold loadT at h
  split at h
  · rename_i b z i f
    split at h
    · rename_i cks q n hrow
      split at h
      · rename_i hz
        have hz : cks.length = z := by simpa using hz
        obtain ⟨s1, e1, hs1, h1, h⟩ := obl_ok hs h
        obtain ⟨s2, e2, hs2, h2, h⟩ := obl_ok hs1 h
        have g1 := leE_ne hρ h1
        have g2 := ltE_ne hρ h2
        simp only [E.ev] at g1
        obtain ⟨a, ha, hcell⟩ := row_cell hρ hs hrow (i := (i.ev ρ).toNat) (by omega)
        have hel : SV.denL ρ β (elemS cx cks (E.rdA q i)) = elemV cks (rdZ (q.ev ρ) (i.ev ρ).toNat) := by
          rw [elemS_den hρ, E.rdA_ev hρ, rdZ_toNat]
        split at h
        · rename_i m ha' hm
          split at h
          · rename_i hf
            cases h
            refine ⟨?_, e2.trans e1, hs2⟩
            rw [ep_den ρ β b z i f ha]
            have hden : SV.denL ρ β (((elemS cx cks (E.rdA q i)).drop f).take m) = ((elemV cks (rdZ (q.ev ρ) (i.ev ρ).toNat)).drop f).take m := by
              rw [← hel]; simp only [denL_map, List.map_take, List.map_drop]
            have hlen : (((elemV cks (rdZ (q.ev ρ) (i.ev ρ).toNat)).drop f).take m).length = m := by
              simp only [List.length_take, List.length_drop, elemV_len, hz]; omega
            have hld := run_loadCells_list (P := cx.P) w (a.add ((i.ev ρ).toNat * z + f)) (((elemV cks (rdZ (q.ev ρ) (i.ev ρ).toNat)).drop f).take m) (by
              intro r x hx
              rw [List.getElem?_take] at hx
              split at hx
              · rw [List.getElem?_drop] at hx
                rw [addr_add2, Nat.add_assoc, ← hz]
                exact hcell _ x hx
              · cases hx)
            rw [hlen] at hld
            simp only [Instr.loadAt, Instr.sureAddr, loadVar, Sem.run_bind, Sem.run_pure, Result.andThen_ok, run_isAgg_of ha', if_true, run_sizeOf_of hm, hld, SV.den, hden]
          · cases h
        · rename_i ha'
          split at h
          · rename_i v' hv'
            cases h
            refine ⟨?_, e2.trans e1, hs2⟩
            rw [ep_den ρ β b z i f ha]
            have hx : (elemV cks (rdZ (q.ev ρ) (i.ev ρ).toNat))[f]? = some (v.den ρ β) := by
              rw [← hel, denL_get, hv']; rfl
            have hc := hcell f _ hx
            rw [hz] at hc
            simp [Instr.loadAt, Instr.sureAddr, loadVar, run_isAgg_of ha', hc]
          · cases h
        · cases h
      · cases h
    · cases h
  · rename_i j base len i
    split at h
    · rename_i l ha' hl
      split at h
      · rename_i k q hg
        obtain ⟨s1, e1, hs1, h1, h⟩ := obl_ok hs h
        obtain ⟨s2, e2, hs2, h2, h⟩ := obl_ok hs1 h
        cases h
        have g1 := leE_ne hρ h1
        have g2 := ltE_ne hρ h2
        simp only [E.ev] at g1 g2
        refine ⟨?_, e2.trans e1, hs2⟩
        obtain ⟨hln, hcells⟩ := hs.cellN len base hl
        have hi : (i.ev ρ).toNat < l.length := by omega
        have hgv := gather_ok hρ β hg _ hi
        rw [denL_get, List.getElem?_eq_getElem hi, Option.map_some, Option.some.injEq] at hgv
        have hc := hcells _ _ (List.getElem?_eq_getElem hi)
        rw [hgv, rdZ_toNat] at hc
        simp only [SV.den, ckS_den hρ, E.rdA_ev hρ, Nat.mul_one]
        simp [Instr.loadAt, Instr.sureAddr, loadVar, run_isAgg_of ha', hc]
      · cases h
    · cases h
  · rename_i h1 h2
    split at h
    · rename_i r hr
      cases h
      exact ⟨loadS_ok hs hr, rfl, hs⟩
    · cases h

end

end Go.Eng
