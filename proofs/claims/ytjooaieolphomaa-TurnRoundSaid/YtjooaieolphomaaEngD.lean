/-
  A symbolic executor, part D: the other operations that make no memory.
-/
import Derived.Test.YtjooaieolphomaaEngC
set_option linter.unusedVariables false
set_option linter.unusedSimpArgs false
namespace Go.Eng

theorem binS_ok {cx : Cx} {ρ : Env} {β : Nat → Nat × Nat} {s s' : St} {w : World} {op : BinOp} {xt : TypeId} {x y : Operand} {X Y v : SV} (hρ : EnvOk cx ρ) (hs : Sat ρ β s w)
    (h : (binS cx op xt X Y s).sel ρ = some (v, s')) : BinOk cx op xt x y X Y ρ β w v ∧ s'.bl = s.bl ∧ Sat ρ β s' w := by
  unfold binS at h
  split at h
  · split at h
    · rename_i h0
      cases h
      exact ⟨bin_shl hρ (lo0_ok h0 (E.iv_ok hρ _)), rfl, hs⟩
    · obtain ⟨s1, e1, hs1, ⟨_, h⟩ | ⟨h0, h⟩⟩ := fork_ok hs h
      · cases h
      · cases h
        exact ⟨bin_shl hρ (lt0_ev hρ _ h0), e1, hs1⟩
  · split at h
    · rename_i h0
      cases h
      exact ⟨bin_shr hρ (lo0_ok h0 (E.iv_ok hρ _)), rfl, hs⟩
    · obtain ⟨s1, e1, hs1, ⟨_, h⟩ | ⟨h0, h⟩⟩ := fork_ok hs h
      · cases h
      · cases h
        exact ⟨bin_shr hρ (lt0_ev hρ _ h0), e1, hs1⟩
  · split at h
    · cases h
    · rename_i hk
      simp only [ne_eq, Decidable.not_not] at hk
      subst hk
      split at h
      · rename_i h0
        cases h
        exact ⟨bin_quo hρ (non0_ok h0 (E.iv_ok hρ _)), rfl, hs⟩
      · obtain ⟨s1, e1, hs1, ⟨_, h⟩ | ⟨h0, h⟩⟩ := fork_ok hs h
        · cases h
        · cases h
          exact ⟨bin_quo hρ (eq0_ev hρ _ _ h0), e1, hs1⟩
  · split at h
    · cases h
    · rename_i hk
      simp only [ne_eq, Decidable.not_not] at hk
      subst hk
      split at h
      · rename_i h0
        cases h
        exact ⟨bin_rem hρ (non0_ok h0 (E.iv_ok hρ _)), rfl, hs⟩
      · obtain ⟨s1, e1, hs1, ⟨_, h⟩ | ⟨h0, h⟩⟩ := fork_ok hs h
        · cases h
        · cases h
          exact ⟨bin_rem hρ (eq0_ev hρ _ _ h0), e1, hs1⟩
  · split at h
    · cases h
    · rename_i hk
      simp only [ne_eq, Decidable.not_not] at hk
      subst hk
      split at h
      · rename_i b hb
        cases h
        exact ⟨bin_int_ar hρ hb, rfl, hs⟩
      · split at h
        · rename_i b u z hb
          cases h
          exact ⟨bin_int_cm hρ hb, rfl, hs⟩
        · cases h
  · split at h
    · rename_i ht
      cases h
      exact ⟨(bin_bool hρ ht).1, rfl, hs⟩
    · cases h
  · split at h
    · rename_i ht
      cases h
      exact ⟨(bin_bool hρ ht).2, rfl, hs⟩
    · cases h
  · split at h
    · rename_i n e hu
      split at h
      · rename_i hc
        simp only [Bool.and_eq_true, beq_iff_eq] at hc
        split at h
        · rename_i r hr
          cases h
          exact ⟨(bin_agg hρ hu hc.1.1 hc.1.2 hc.2 hr).1, rfl, hs⟩
        · cases h
      · cases h
    · cases h
  · split at h
    · rename_i n e hu
      split at h
      · rename_i hc
        simp only [Bool.and_eq_true, beq_iff_eq] at hc
        split at h
        · rename_i r hr
          cases h
          exact ⟨(bin_agg hρ hu hc.1.1 hc.1.2 hc.2 hr).2, rfl, hs⟩
        · cases h
      · cases h
    · cases h
  · split at h
    · rename_i b hb
      cases h
      exact ⟨(bin_nil hρ hb).1, rfl, hs⟩
    · cases h
  · split at h
    · rename_i b hb
      cases h
      exact ⟨(bin_nil hρ hb).2, rfl, hs⟩
    · cases h
  · cases h

/-! ### the other plain ones -/

def unS (cx : Cx) (op : UnOp) (x : SV) : Option SV :=
  match op, x with
  | .neg, .int k e => some (.int k (E.b' cx .sub k (.c 0) e))
  | .xor, .int k e => some (.int k (E.b' cx .xor k (.c (if k.signed then -1 else k.max)) e))
  | .not, .bool e => some (.bool (E.nt' e))
  | _, _ => none

theorem unS_ok {cx : Cx} {ρ : Env} {β : Nat → Nat × Nat} {w : World} {op : UnOp} {X v : SV} (hρ : EnvOk cx ρ) (h : unS cx op X = some v) :
    (Op.unary op (X.den ρ β)).run cx.P w = .ok (v.den ρ β) w := by
  unfold unS at h
  split at h <;> cases h
  · simp [SV.den, Op.unary, Op.intArith, E.b'_ev hρ, BO.ev, E.ev]
  · simp [SV.den, Op.unary, Op.intBits, E.b'_ev hρ, BO.ev, E.ev]
  · simp [SV.den, Op.unary, E.nt'_ev, bool01_ne]; rfl

def convS (cx : Cx) (src dst : TypeId) (x : SV) : Option SV :=
  match cx.und src, cx.und dst, x with
  | some _, some (.int k), .int _ e => some (.int k (E.w' cx k e))
  | _, _, _ => none

theorem convS_ok {cx : Cx} {ρ : Env} {β : Nat → Nat × Nat} {w : World} {src dst : TypeId} {X v : SV} (hρ : EnvOk cx ρ) (h : convS cx src dst X = some v) :
    (convert src dst (X.den ρ β)).run cx.P w = .ok (v.den ρ β) w := by
  unfold convS at h
  split at h <;> cases h
  rename_i h1 h2
  simp [SV.den, convert, run_und h1, run_und h2, E.w'_ev hρ, Conv.intToInt]

def mkIfS (cx : Cx) (t : TypeId) (x : SV) : Option SV :=
  match cx.und t with
  | some (.interface _) => none
  | some _ => some (.iface t x)
  | none => none
theorem mkIfS_ok {cx : Cx} {ρ : Env} {β : Nat → Nat × Nat} {w : World} {t : TypeId} {X v : SV} (h : mkIfS cx t X = some v) :
    (Instr.makeInterface t (X.den ρ β)).run cx.P w = .ok (v.den ρ β) w := by
  unfold mkIfS at h
  split at h <;> cases h
  rename_i hn hu
  simp only [Instr.makeInterface, Sem.run_bind, run_und hu, Result.andThen_ok]
  rfl

/-- a part of a row of cells -/
def partS (cx : Cx) (t : TypeId) (l : List SV) (off : Nat) : Option SV :=
  match isAggT cx t, szT cx t with
  | some true, some n => if off + n ≤ l.length then some (.agg ((l.drop off).take n)) else none
  | some false, some _ => l[off]?
  | _, _ => none
theorem partS_ok {cx : Cx} {ρ : Env} {β : Nat → Nat × Nat} {w : World} {t : TypeId} {l : List SV} {off : Nat} {v : SV} (h : partS cx t l off = some v) :
    (part t (SV.denL ρ β l).toArray off).run cx.P w = .ok (v.den ρ β) w := by
  unfold partS at h
  split at h
  · rename_i n ha hn
    split at h <;> cases h
    simp [part, run_isAgg_of ha, run_sizeOf_of hn, SV.den, denL_map, List.extract_eq_take_drop, List.map_take, List.map_drop]
  · rename_i n ha hn
    simp [part, run_isAgg_of ha, denL_get, h]
  · cases h

def fieldS (cx : Cx) (t : TypeId) (x : SV) (f : Nat) : Option SV :=
  match cx.und t, x with
  | some (.struct fs), .agg l => match fs[f]? with
    | some fl => partS cx fl.type l fl.offset
    | none => none
  | _, _ => none
theorem fieldS_ok {cx : Cx} {ρ : Env} {β : Nat → Nat × Nat} {w : World} {t : TypeId} {f : Nat} {X v : SV} (h : fieldS cx t X f = some v) :
    (Instr.field t (X.den ρ β) f).run cx.P w = .ok (v.den ρ β) w := by
  unfold fieldS at h
  split at h
  · rename_i fs l hu
    split at h
    · rename_i fl hf
      simp [Instr.field, run_und hu, hf, SV.den, asAgg, partS_ok h]
    · cases h
  · cases h

def extractS (x : SV) (i : Nat) : Option SV :=
  match x with
  | .tup l => l[i]?
  | _ => none
theorem extractS_ok {P : Program} {ρ : Env} {β : Nat → Nat × Nat} {w : World} {i : Nat} {X v : SV} (h : extractS X i = some v) :
    (Instr.extract (X.den ρ β) i).run P w = .ok (v.den ρ β) w := by
  unfold extractS at h
  split at h
  · simp [Instr.extract, SV.den, denL_get, h]
  · cases h

def nilS (x : SV) : Option SV :=
  match x with
  | .ptr _ _ => some x
  | .any _ => some x
  | .iface _ _ => some x
  | .func (.func _) _ _ => some x
  | _ => none

def constI : SV → Option Int
  | .int _ (.c n) => some n
  | _ => none

/-- the address of a field -/
def faddrS (cx : Cx) (t : TypeId) (x : SV) (f : Nat) : Option SV :=
  match cx.und t, x with
  | some (.struct fs), .ptr j off => match fs[f]? with
    | some fl => match szT cx fl.type with
      | some (_ + 1) => some (.ptr j (off + fl.offset))
      | _ => none
    | none => none
  | _, _ => none
theorem addr_add (b off n : Nat) : (Addr.add ⟨b, off, none⟩ n) = ⟨b, off + n, none⟩ := by
  unfold Addr.add
  split
  · rename_i h; simp [h]
  · rfl
theorem faddrS_ok {cx : Cx} {ρ : Env} {β : Nat → Nat × Nat} {w : World} {t : TypeId} {f : Nat} {X v : SV} (h : faddrS cx t X f = some v) :
    (Instr.fieldAt t (X.den ρ β) f).run cx.P w = .ok (v.den ρ β) w := by
  unfold faddrS at h
  split at h
  · rename_i fs j off hu
    split at h
    · rename_i fl hf
      split at h
      · rename_i n hn
        cases h
        simp [Instr.fieldAt, run_und hu, hf, SV.den, Instr.sureAddr, fieldPlace, run_sizeOf_of hn, addr_add]
      · cases h
    · cases h
  · cases h

/-- the address of an element, at a constant index within the bounds -/
def iaddrS (cx : Cx) (t : TypeId) (x ix : SV) : Option SV :=
  match cx.und t, x, constI ix with
  | some (.array len el), .ptr j off, some n => match szT cx el with
    | some z => if 0 ≤ n ∧ n < len then some (.ptr j (off + n.toNat * z)) else none
    | none => none
  | some (.slice el), .slice j off len _, some n => match szT cx el with
    | some z => if 0 ≤ n ∧ n < len then some (.ptr j (off + n.toNat * z)) else none
    | none => none
  | _, _, _ => none
theorem constI_ok {P : Program} {ρ : Env} {β : Nat → Nat × Nat} {w : World} {x : SV} {n : Int} (h : constI x = some n) : ∃ k, (asIntOf (x.den ρ β)).run P w = .ok (k, n) w := by
  unfold constI at h
  split at h <;> cases h
  exact ⟨_, rfl⟩
theorem iaddrS_ok {cx : Cx} {ρ : Env} {β : Nat → Nat × Nat} {w : World} {t : TypeId} {X I v : SV} (h : iaddrS cx t X I = some v) :
    (Instr.indexAt t (X.den ρ β) (I.den ρ β)).run cx.P w = .ok (v.den ρ β) w := by
  unfold iaddrS at h
  split at h
  · rename_i len el j off n hu hi
    obtain ⟨k, hk⟩ := constI_ok (P := cx.P) (ρ := ρ) (β := β) (w := w) hi
    split at h
    · rename_i z hz
      split at h <;> cases h
      rename_i hb
      simp [Instr.indexAt, hk, run_und hu, SV.den, Instr.sureAddr, hb, run_sizeOf_of hz, addr_add]
    · cases h
  · rename_i el j off len cap n hu hi
    obtain ⟨k, hk⟩ := constI_ok (P := cx.P) (ρ := ρ) (β := β) (w := w) hi
    split at h
    · rename_i z hz
      split at h <;> cases h
      rename_i hb
      simp [Instr.indexAt, hk, run_und hu, SV.den, hb, run_sizeOf_of hz, addr_add]
    · cases h
  · cases h

/-- an element of a row that is a value, at a constant index -/
def indexS (cx : Cx) (t : TypeId) (x ix : SV) : Option SV :=
  match cx.und t, x, constI ix with
  | some (.array len el), .agg l, some n => match szT cx el with
    | some z => if 0 ≤ n ∧ n < len then partS cx el l (n.toNat * z) else none
    | none => none
  | some .string, .lit (.string b), some n => if 0 ≤ n then (match b[n.toNat]? with | some c => some (.int .u8 (.c c.toNat)) | none => none) else none
  | _, _, _ => none
theorem indexS_ok {cx : Cx} {ρ : Env} {β : Nat → Nat × Nat} {w : World} {t : TypeId} {X I v : SV} (h : indexS cx t X I = some v) :
    (Instr.index t (X.den ρ β) (I.den ρ β)).run cx.P w = .ok (v.den ρ β) w := by
  unfold indexS at h
  split at h
  · rename_i len el l n hu hi
    obtain ⟨k, hk⟩ := constI_ok (P := cx.P) (ρ := ρ) (β := β) (w := w) hi
    split at h
    · rename_i z hz
      split at h
      · rename_i hb
        simp [Instr.index, hk, run_und hu, SV.den, hb, run_sizeOf_of hz, partS_ok h]
      · cases h
    · cases h
  · rename_i b n hu hi
    obtain ⟨k, hk⟩ := constI_ok (P := cx.P) (ρ := ρ) (β := β) (w := w) hi
    split at h
    · rename_i h0
      split at h <;> cases h
      rename_i c hc
      simp [Instr.index, hk, run_und hu, SV.den, h0, hc, E.ev]
    · cases h
  · cases h

/-- what is read at a place -/
def loadS (cx : Cx) (t : TypeId) (x : SV) (s : St) : Option SV :=
  match x with
  | .ptr j off => match isAggT cx t, szT cx t with
    | some true, some n => match s.cellN j off n with
      | some l => some (.agg l)
      | none => none
    | some false, _ => s.cell j off
    | _, _ => none
  | _ => none
theorem loadS_ok {cx : Cx} {ρ : Env} {β : Nat → Nat × Nat} {w : World} {t : TypeId} {s : St} {X v : SV} (hs : Sat ρ β s w) (h : loadS cx t X s = some v) :
    (Instr.loadAt t (X.den ρ β)).run cx.P w = .ok (v.den ρ β) w := by
  unfold loadS at h
  split at h
  · rename_i j off
    split at h
    · rename_i n ha hn
      split at h <;> cases h
      rename_i l hl
      obtain ⟨h1, h2⟩ := hs.cellN n off hl
      have hld := run_loadCells_list (P := cx.P) w ⟨(β j).1, off, none⟩ (SV.denL ρ β l) (by
        intro i x hx
        rw [denL_get] at hx
        obtain ⟨y, hy, rfl⟩ := Option.map_eq_some_iff.1 hx
        rw [addr_add]; exact h2 i y hy)
      rw [denL_length, h1] at hld
      simp [Instr.loadAt, SV.den, Instr.sureAddr, loadVar, run_isAgg_of ha, run_sizeOf_of hn, hld]
    · rename_i ha
      simp [Instr.loadAt, SV.den, Instr.sureAddr, loadVar, run_isAgg_of ha, hs.cell h]
    · cases h
  · cases h

def setCells (s : St) (j : Nat) : Nat → List SV → Option St
  | _, [] => some s
  | off, x :: l => match s.setCell j off x with
    | some s1 => setCells s1 j (off + 1) l
    | none => none

theorem oneV_oneCell {v : Value} (h : oneV v = true) : v.oneCell' = true := by cases v <;> simp_all [oneV, Value.oneCell']

theorem setCells_ok {cx : Cx} {ρ : Env} (hρ : EnvOk cx ρ) {β : Nat → Nat × Nat} {j : Nat} (base : Nat) : ∀ (l : List SV) (i : Nat) {s s' : St} {w : World}, Sat ρ β s w → setCells s j (base + i) l = some s' →
    ∃ w', (storeCells ⟨(β j).1, base, none⟩ (SV.denL ρ β l) i).run cx.P w = .ok () w' ∧ Sat ρ β s' w' ∧ Ext s s' β β w w' ∧ s'.bl.length = s.bl.length
  | [], i, s, s', w, hs, h => by
    cases h
    exact ⟨w, by simp [SV.denL, storeCells], hs, Ext.refl _ _ _, rfl⟩
  | x :: l, i, s, s', w, hs, h => by
    simp only [setCells] at h
    split at h
    · rename_i s1 h1
      obtain ⟨⟨u, hu⟩, hf, ho, hs1, hx1⟩ := St.setCell_ok hρ hs h1
      obtain ⟨w', hr, hs', hx', hl⟩ := setCells_ok hρ base l (i + 1) hs1 (by rw [← Nat.add_assoc]; exact h)
      refine ⟨w', ?_, hs', hx1.trans hx', ?_⟩
      · simp only [SV.denL, storeCells, addr_add, Sem.run_bind, run_store _ _ _ _ _ (oneV_oneCell ho), hu, hf]
        simpa using hr
      · rw [hl]
        unfold St.setCell at h1
        split at h1
        · split at h1 <;> cases h1
          simp
        · cases h1
    · cases h

def storeS (cx : Cx) (t : TypeId) (x v : SV) (s : St) : Option St :=
  match x, v.cells, szT cx t with
  | .ptr j off, some l, some n => if l.length = n then setCells s j off l else none
  | _, _, _ => none
theorem storeS_ok {cx : Cx} {ρ : Env} (hρ : EnvOk cx ρ) {β : Nat → Nat × Nat} {w : World} {t : TypeId} {s s' : St} {X v : SV} (hs : Sat ρ β s w) (h : storeS cx t X v s = some s') :
    ∃ w', (Instr.storeAt t (X.den ρ β) (v.den ρ β)).run cx.P w = .ok () w' ∧ Sat ρ β s' w' ∧ Ext s s' β β w w' ∧ s'.bl.length = s.bl.length := by
  unfold storeS at h
  split at h
  · rename_i j off l n hc hn
    split at h
    · rename_i hl
      obtain ⟨w', hr, h1, h2, h3⟩ := setCells_ok hρ off l 0 hs (by simpa using h)
      obtain ⟨hc1, _⟩ := SV.cells_den hρ β hc
      refine ⟨w', ?_, h1, h2, h3⟩
      simp [Instr.storeAt, SV.den, Instr.sureAddr, storeVar, hc1, run_sizeOf_of hn, hl, hr]
    · cases h
  · cases h

end Go.Eng
