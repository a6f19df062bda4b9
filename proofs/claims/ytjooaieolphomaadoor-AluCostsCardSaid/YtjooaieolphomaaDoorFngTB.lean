/-
  A symbolic executor, part TB: a loop's head; what comes to it is held against it.
-/
import Derived.Test.YtjooaieolphomaaDoorFngTA
set_option linter.unusedVariables false
set_option linter.unusedSimpArgs false
set_option linter.unusedSectionVars false
namespace Go.Eng

/-! ### what comes to a head -/

/-- what a block of the head stands for -/
inductive Tgt where
  | idx (j : Nat)
  | nil
  | conc (j : Nat) (q n : E) (c : Option Nat)
  | val (x : SV)

structure Ab where
  base : Nat
  bds : List (Option (Int × Int))
  es : List E
  mp : List (Nat × Tgt)

def lookT : List (Nat × Tgt) → Nat → Tgt
  | [], j => .idx j
  | (i, t) :: l, j => if i == j then t else lookT l j

def bdEq (p : Option (Int × Int)) (l h : Int) : Bool := match p with
  | some p => p.1 == l && p.2 == h
  | none => false

def Ab.ckE (a : Ab) (eH e : E) : Bool :=
  match eH with
  | .cl i l h => (match Nat.ble a.base i with
    | true => (match a.es[i - a.base]?, a.bds[i - a.base]? with
      | some x, some p => x.beq e && bdEq p l h
      | _, _ => false)
    | false => eH.beq e)
  | .v i => (match Nat.ble a.base i with
    | true => (match a.es[i - a.base]? with
      | some x => x.beq e
      | none => false)
    | false => eH.beq e)
  | eH => eH.beq e && eH.vb a.base

def Ab.ckO (a : Ab) : Option E → Option E → Bool
  | none, none => true
  | some x, some y => a.ckE x y
  | _, _ => false

def Tgt.isIdx (t : Tgt) (j : Nat) : Bool := match t with
  | .idx i => i == j
  | _ => false

def Ab.ckB (a : Ab) : Bs → Bs → Bool
  | .own i, .own j => (lookT a.mp i).isIdx j
  | .inp i, .inp j => i == j
  | _, _ => false

mutual
def Ab.ck (a : Ab) : SV → SV → Bool
  | .wild i, y => (match lookT a.mp i with
    | .val x => x.beq y
    | .idx j => (match y with
      | .wild k => k == j
      | _ => false)
    | _ => false)
  | .int k e, .int k' e' => decide (k = k') && a.ckE e e'
  | .bool e, .bool e' => a.ckE e e'
  | .ptr i o, .ptr j o' => (lookT a.mp i).isIdx j && o == o'
  | .lit v, .lit v' => vbeq v v'
  | .any i, .any j => i == j
  | .slice i o l c, .slice j o' l' c' => (lookT a.mp i).isIdx j && o == o' && l == l' && decide (c = c')
  | .func f x c, .func f' x' c' => Fn.beq f f' && a.ckL x x' && a.ckL c c'
  | .iface t x, .iface t' x' => t == t' && a.ck x x'
  | .agg l, .agg l' => a.ckL l l'
  | .tup l, .tup l' => a.ckL l l'
  | .str e, .str e' => a.ckE e e'
  | .sl (.own i) z o l q, y => (match lookT a.mp i, y with
    | .nil, .lit (.slice none 0 0) => a.ckE l (.c 0) && (match q with
      | none => true
      | _ => false)
    | .conc j _ n c, .slice j' 0 m c' => j == j' && isZero o && a.ckE l n && n.beq (.c m) && decide (c = c') && (match q with
      | none => true
      | _ => false)
    | .idx j, .sl (.own j') z' o' l' q' => j == j' && z == z' && a.ckE o o' && a.ckE l l' && a.ckO q q'
    | _, _ => false)
  | .sl (.inp i) z o l q, .sl (.inp j) z' o' l' q' => i == j && z == z' && a.ckE o o' && a.ckE l l' && a.ckO q q'
  | .ep b z i f, .ep b' z' i' f' => a.ckB b b' && z == z' && a.ckE i i' && f == f'
  | .cp i b z l e, .cp j b' z' l' e' => (lookT a.mp i).isIdx j && b == b' && z == z' && l == l' && a.ckE e e'
  | _, _ => false
def Ab.ckL (a : Ab) : List SV → List SV → Bool
  | [], [] => true
  | x :: l, y :: m => a.ck x y && a.ckL l m
  | _, _ => false
end

/-- what the head's blocks are: their place, their room, what is held -/
noncomputable def Ab.β (a : Ab) (ρ : Env) (β : Bt) : Bt := fun i => match lookT a.mp i with
  | .idx j => β j
  | .nil => (0, 0, .nilIface)
  | .conc j _ _ c => ((β j).1, c.getD (β j).2.1 + 1, .nilIface)
  | .val x => (0, 0, x.den ρ β)

section
variable {a : Ab} {ρ ρ' : Env} {β : Bt} (hag : Agn a.base ρ ρ') (hv : (List.range a.bds.length).map (fun k => ρ'.i (a.base + k)) = a.es.map (E.ev ρ)) (hb : inBd a.bds (a.es.map (E.ev ρ)))
include hag hv hb

theorem Ab.name {k : Nat} {x : E} (hx : a.es[k]? = some x) : ρ'.i (a.base + k) = x.ev ρ := by
  have hl := (inBd_get hb).1
  have hk : k < a.bds.length := by
    have := (List.getElem?_eq_some_iff.1 hx).1
    simp at hl; omega
  have h1 : ((List.range a.bds.length).map (fun k => ρ'.i (a.base + k)))[k]? = some (ρ'.i (a.base + k)) := by simp [hk]
  rw [hv, List.getElem?_map, hx] at h1
  exact (Option.some.inj h1).symm

theorem Ab.ckE_ok {eH e : E} (h : a.ckE eH e = true) : eH.ev ρ' = e.ev ρ := by
  unfold Ab.ckE at h
  split at h
  · rename_i i l h'
    split at h
    · rename_i hi
      have hi := Nat.le_of_ble_eq_true hi
      split at h
      · rename_i x p hx hp
        simp only [Bool.and_eq_true] at h
        have := E.eq_of_beq h.1
        subst this
        have hn := Ab.name hag hv hb hx
        rw [show a.base + (i - a.base) = i by omega] at hn
        have hin := (inBd_get hb).2 (i - a.base) p (x.ev ρ) hp (by rw [List.getElem?_map, hx]; rfl)
        unfold bdEq at h
        split at h
        · rename_i q
          simp only [Bool.and_eq_true, beq_iff_eq] at h
          obtain ⟨rfl, rfl⟩ := h.2
          simp only [E.ev, hn]
          exact clampZ_in hin.1 hin.2
        · simp at h
      · cases h
    · rename_i hi
      have := E.eq_of_beq h
      subst this
      have : i < a.base := by
        rcases Nat.lt_or_ge i a.base with h1 | h1
        · exact h1
        · rw [Nat.ble_eq_true_of_le h1] at hi; cases hi
      simp only [E.ev, hag.i i this]
  · rename_i i
    split at h
    · rename_i hi
      have hi := Nat.le_of_ble_eq_true hi
      split at h
      · rename_i x hx
        have := E.eq_of_beq h
        subst this
        have hn := Ab.name hag hv hb hx
        rw [show a.base + (i - a.base) = i by omega] at hn
        exact hn
      · cases h
    · rename_i hi
      have := E.eq_of_beq h
      subst this
      have : i < a.base := by
        rcases Nat.lt_or_ge i a.base with h1 | h1
        · exact h1
        · rw [Nat.ble_eq_true_of_le h1] at hi; cases hi
      simp only [E.ev, hag.i i this]
  · simp only [Bool.and_eq_true] at h
    have := E.eq_of_beq h.1
    subst this
    exact E.vb_ev hag _ h.2

omit hag hv hb in
theorem Ab.isIdx_ok {i j : Nat} (h : (lookT a.mp i).isIdx j = true) : a.β ρ β i = β j := by
  unfold Tgt.isIdx at h
  unfold Ab.β
  split at h
  · rename_i k hk
    rw [hk]; simp at h; subst h; rfl
  · cases h

mutual
theorem Ab.ck_ok : ∀ (x y : SV), a.ck x y = true → x.den ρ' (a.β ρ β) = y.den ρ β
  | .wild i, y, h => by
    simp only [Ab.ck] at h
    split at h
    · rename_i x hx
      have := SV.eq_of_beq _ _ h
      subst this
      simp only [SV.den, Ab.β, hx]
    · rename_i j hj
      split at h
      · rename_i k
        simp at h
        subst h
        simp only [SV.den, Ab.β, hj]
      · cases h
    · cases h
  | .int k e, y, h => by
    cases y <;> simp only [Ab.ck] at h <;> try (cases h; done)
    simp only [Bool.and_eq_true, decide_eq_true_eq] at h
    simp only [SV.den, h.1, Ab.ckE_ok hag hv hb h.2]
  | .bool e, y, h => by
    cases y <;> simp only [Ab.ck] at h <;> try (cases h; done)
    simp only [SV.den, Ab.ckE_ok hag hv hb h]
  | .ptr i o, y, h => by
    cases y <;> simp only [Ab.ck] at h <;> try (cases h; done)
    simp only [Bool.and_eq_true, beq_iff_eq] at h
    simp only [SV.den, Ab.isIdx_ok h.1, h.2]
  | .lit v, y, h => by
    cases y <;> simp only [Ab.ck] at h <;> try (cases h; done)
    simp only [SV.den, vbeq_eq h]
  | .any i, y, h => by
    cases y <;> simp only [Ab.ck] at h <;> try (cases h; done)
    simp only [beq_iff_eq] at h
    simp only [SV.den, h, hag.v]
  | .slice i o l c, y, h => by
    cases y <;> simp only [Ab.ck] at h <;> try (cases h; done)
    simp only [Bool.and_eq_true, beq_iff_eq, decide_eq_true_eq] at h
    simp only [SV.den, Ab.isIdx_ok h.1.1.1, h.1.1.2, h.1.2, h.2]
  | .func f x c, y, h => by
    cases y <;> simp only [Ab.ck] at h <;> try (cases h; done)
    simp only [Bool.and_eq_true] at h
    simp only [SV.den, Fn.eq_of_beq h.1.1, Ab.ckL_ok _ _ h.1.2, Ab.ckL_ok _ _ h.2]
  | .iface t x, y, h => by
    cases y <;> simp only [Ab.ck] at h <;> try (cases h; done)
    simp only [Bool.and_eq_true, beq_iff_eq] at h
    simp only [SV.den, h.1, Ab.ck_ok _ _ h.2]
  | .agg l, y, h => by
    cases y <;> simp only [Ab.ck] at h <;> try (cases h; done)
    simp only [SV.den, Ab.ckL_ok _ _ h]
  | .tup l, y, h => by
    cases y <;> simp only [Ab.ck] at h <;> try (cases h; done)
    simp only [SV.den, Ab.ckL_ok _ _ h]
  | .str e, y, h => by
    cases y <;> simp only [Ab.ck] at h <;> try (cases h; done)
    simp only [SV.den, Ab.ckE_ok hag hv hb h]
  | .sl (.own i) z o l q, y, h => by
    simp only [Ab.ck] at h
    split at h
    · rename_i ht
      cases q with
      | some _ => simp at h
      | none =>
        simp only [Bool.and_true] at h
        have := Ab.ckE_ok hag hv hb h
        simp only [SV.den, Ab.β, ht, this, E.ev]
        rfl
    · rename_i j q0 n c m c' ht
      cases q with
      | some _ => simp at h
      | none =>
        simp only [Bool.and_true, Bool.and_eq_true, beq_iff_eq, decide_eq_true_eq] at h
        obtain ⟨⟨⟨⟨rfl, ho⟩, hl⟩, hn⟩, rfl⟩ := h
        have hl := Ab.ckE_ok hag hv hb hl
        have hn := E.eq_of_beq hn
        subst hn
        have ho := isZero_ok ho
        subst ho
        simp only [SV.den, Ab.β, ht, hl, E.ev]
        simp
    · rename_i j j' z' o' l' q' ht
      simp only [Bool.and_eq_true, beq_iff_eq] at h
      obtain ⟨⟨⟨⟨rfl, rfl⟩, ho⟩, hl⟩, hq⟩ := h
      have ho := Ab.ckE_ok hag hv hb ho
      have hl := Ab.ckE_ok hag hv hb hl
      cases q <;> cases q' <;> simp only [Ab.ckO] at hq <;> try (cases hq; done)
      · simp only [SV.den, Ab.β, ht, ho, hl]
      · have hq := Ab.ckE_ok hag hv hb hq
        simp only [SV.den, Ab.β, ht, ho, hl, hq]
    · cases h
  | .sl (.inp i) z o l q, y, h => by
    cases y with
    | sl b z' o' l' q' =>
      cases b with
      | own j => simp only [Ab.ck] at h; cases h
      | inp j =>
        simp only [Ab.ck, Bool.and_eq_true, beq_iff_eq] at h
        obtain ⟨⟨⟨⟨rfl, rfl⟩, ho⟩, hl⟩, hq⟩ := h
        have ho := Ab.ckE_ok hag hv hb ho
        have hl := Ab.ckE_ok hag hv hb hl
        cases q <;> cases q' <;> simp only [Ab.ckO] at hq <;> try (cases hq; done)
        · simp only [SV.den, ho, hl, hag.ro]
        · have hq := Ab.ckE_ok hag hv hb hq
          simp only [SV.den, ho, hl, hq, hag.ro]
    | _ => simp only [Ab.ck] at h; cases h
  | .ep b z i f, y, h => by
    cases y with
    | ep b' z' i' f' =>
      simp only [Ab.ck, Bool.and_eq_true, beq_iff_eq] at h
      obtain ⟨⟨⟨hb', rfl⟩, hi⟩, rfl⟩ := h
      have hi := Ab.ckE_ok hag hv hb hi
      cases b <;> cases b' <;> simp only [Ab.ckB] at hb' <;> try (cases hb'; done)
      · simp only [SV.den, hi, Ab.isIdx_ok hb']
      · simp only [beq_iff_eq] at hb'
        simp only [SV.den, hi, hb', hag.ro]
    | _ => simp only [Ab.ck] at h; cases h
  | .cp i b z l e, y, h => by
    cases y <;> simp only [Ab.ck] at h <;> try (cases h; done)
    simp only [Bool.and_eq_true, beq_iff_eq] at h
    obtain ⟨⟨⟨⟨h1, rfl⟩, rfl⟩, rfl⟩, h2⟩ := h
    simp only [SV.den, Ab.isIdx_ok h1, Ab.ckE_ok hag hv hb h2]
theorem Ab.ckL_ok : ∀ (x y : List SV), a.ckL x y = true → SV.denL ρ' (a.β ρ β) x = SV.denL ρ β y
  | [], y, h => by cases y <;> simp only [Ab.ckL] at h <;> first | rfl | cases h
  | x :: l, y, h => by
    cases y <;> simp only [Ab.ckL] at h <;> try (cases h; done)
    simp only [Bool.and_eq_true] at h
    simp only [SV.denL, Ab.ck_ok _ _ h.1, Ab.ckL_ok _ _ h.2]
end

end

/-! ### blocks -/

def Ab.ckBl (cx : Cx) (a : Ab) (s : St) (i : Nat) : SBlk → Bool
  | .gone => true
  | .cells l e o => (match lookT a.mp i with
    | .idx j => (match s.bl[j]? with
      | some (.cells l' e' o') => a.ckL l l' && e == e' && decide (o = o')
      | _ => false)
    | _ => false)
  | .arr k e q n => (match lookT a.mp i with
    | .idx j => (match s.bl[j]? with
      | some (.arr k' e' q' n') => decide (k = k') && e == e' && a.ckE q q' && a.ckE n n'
      | _ => false)
    | .nil => a.ckE n (.c 0)
    | .conc j q' n' c => (match s.bl[j]?, n' with
      | some (.cells l e' o), .c m => a.ckE q q' && a.ckE n n' && e == e' && decide (0 ≤ m) && decide (m.toNat * k.length ≤ l.length) && capOk c o l.length k.length && decide (0 < k.length) &&
          (match chunkP cx k k.length m.toNat (l.take (m.toNat * k.length)) with
          | some es => (listE es).beq q'
          | none => false)
      | _, _ => false)
    | .val _ => false)

def Ab.ckBls (cx : Cx) (a : Ab) (s : St) : Nat → List SBlk → Bool
  | _, [] => true
  | i, b :: l => a.ckBl cx s i b && a.ckBls cx s (i + 1) l

def tgtOf (a : Ab) (i : Nat) : List Nat := match lookT a.mp i with
  | .idx j => [j]
  | .conc j _ _ _ => [j]
  | _ => []
/-- the blocks that the live ones of a head stand for -/
def tgts (a : Ab) : Nat → List SBlk → List Nat
  | _, [] => []
  | i, .gone :: l => tgts a (i + 1) l
  | i, _ :: l => tgtOf a i ++ tgts a (i + 1) l
def nodupB : List Nat → Bool
  | [] => true
  | x :: l => !l.contains x && nodupB l

theorem Ab.ckBls_get {cx : Cx} {a : Ab} {s : St} : ∀ {l : List SBlk} {i k : Nat} {b : SBlk}, a.ckBls cx s i l = true → l[k]? = some b → a.ckBl cx s (i + k) b = true
  | [], i, k, b, _, hk => by simp at hk
  | x :: l, i, 0, b, h, hk => by
    simp only [Ab.ckBls, Bool.and_eq_true] at h
    simp at hk; subst hk; exact h.1
  | x :: l, i, k + 1, b, h, hk => by
    simp only [Ab.ckBls, Bool.and_eq_true] at h
    have := Ab.ckBls_get h.2 (k := k) (by simpa using hk)
    rwa [show i + 1 + k = i + (k + 1) by omega] at this

theorem tgts_mem {a : Ab} : ∀ {l : List SBlk} {i k : Nat} {b : SBlk} {j : Nat}, l[k]? = some b → b ≠ .gone → j ∈ tgtOf a (i + k) → j ∈ tgts a i l
  | [], i, k, b, j, hk, _, _ => by simp at hk
  | x :: l, i, 0, b, j, hk, hb, hj => by
    simp at hk; subst hk
    cases x <;> first | exact absurd rfl hb | (simp only [tgts, List.mem_append]; exact .inl hj)
  | x :: l, i, k + 1, b, j, hk, hb, hj => by
    have := tgts_mem (i := i + 1) (k := k) (l := l) (by simpa using hk) hb (by rwa [show i + 1 + k = i + (k + 1) by omega])
    cases x <;> simp only [tgts] <;> first | exact this | exact List.mem_append.2 (.inr this)

theorem nodup_app {l m : List Nat} (h : nodupB (l ++ m) = true) : nodupB m = true ∧ ∀ x ∈ l, x ∉ m := by
  induction l with
  | nil => exact ⟨h, fun x hx => by cases hx⟩
  | cons y l ih =>
    simp only [List.cons_append, nodupB, Bool.and_eq_true] at h
    obtain ⟨h1, h2⟩ := ih h.2
    refine ⟨h1, fun x hx => ?_⟩
    rcases List.mem_cons.1 hx with rfl | hx
    · intro hm
      have := h.1
      simp [hm] at this
    · exact h2 x hx

theorem tgts_inj {a : Ab} : ∀ {l : List SBlk} {i : Nat}, nodupB (tgts a i l) = true → ∀ {k k' : Nat} {b b' : SBlk} {j : Nat}, l[k]? = some b → l[k']? = some b' → b ≠ .gone → b' ≠ .gone → j ∈ tgtOf a (i + k) → j ∈ tgtOf a (i + k') → k = k'
  | [], i, _, k, k', b, b', j, hk, _, _, _, _, _ => by simp at hk
  | x :: l, i, h, 0, 0, b, b', j, _, _, _, _, _, _ => rfl
  | x :: l, i, h, k + 1, k' + 1, b, b', j, hk, hk', hb, hb', hj, hj' => by
    have hn : nodupB (tgts a (i + 1) l) = true := by
      cases x <;> simp only [tgts] at h <;> first | exact h | exact (nodup_app h).1
    have := tgts_inj hn (k := k) (k' := k') (b := b) (b' := b') (j := j) (by simpa using hk) (by simpa using hk') hb hb' (by rwa [show i + 1 + k = i + (k + 1) by omega]) (by rwa [show i + 1 + k' = i + (k' + 1) by omega])
    omega
  | x :: l, i, h, 0, k' + 1, b, b', j, hk, hk', hb, hb', hj, hj' => by
    simp at hk; subst hk
    have hm := tgts_mem (a := a) (i := i + 1) (k := k') (l := l) (b := b') (j := j) (by simpa using hk') hb' (by rwa [show i + 1 + k' = i + (k' + 1) by omega])
    have h2 : j ∉ tgts a (i + 1) l := by
      cases x with
      | gone => exact absurd rfl hb
      | cells _ _ _ => simp only [tgts] at h; exact (nodup_app h).2 j hj
      | arr _ _ _ _ => simp only [tgts] at h; exact (nodup_app h).2 j hj
    exact absurd hm h2
  | x :: l, i, h, k + 1, 0, b, b', j, hk, hk', hb, hb', hj, hj' => by
    simp at hk'; subst hk'
    have hm := tgts_mem (a := a) (i := i + 1) (k := k) (l := l) (b := b) (j := j) (by simpa using hk) hb (by rwa [show i + 1 + k = i + (k + 1) by omega])
    have h2 : j ∉ tgts a (i + 1) l := by
      cases x with
      | gone => exact absurd rfl hb'
      | cells _ _ _ => simp only [tgts] at h; exact (nodup_app h).2 j hj'
      | arr _ _ _ _ => simp only [tgts] at h; exact (nodup_app h).2 j hj'
    exact absurd hm h2

/-- what comes to the head is what the head tells -/
def Ab.check (cx : Cx) (a : Ab) (n0 : Nat) (tmH : List SV) (blH : List SBlk) (tm : List SV) (s : St) : Bool :=
  a.ckL tmH tm && a.ckBls cx s 0 blH && nodupB (tgts a 0 blH) && a.mp.all (fun p => Nat.ble n0 p.1) && Nat.ble n0 blH.length

theorem lookT_lt {n0 : Nat} : ∀ {mp : List (Nat × Tgt)} {j : Nat}, mp.all (fun p => Nat.ble n0 p.1) = true → j < n0 → lookT mp j = .idx j
  | [], _, _, _ => rfl
  | (i, t) :: l, j, h, hj => by
    simp only [List.all_cons, Bool.and_eq_true] at h
    have := Nat.le_of_ble_eq_true h.1
    simp only [lookT]
    rw [if_neg (by simp; omega)]
    exact lookT_lt h.2 hj

theorem check_ok {cx : Cx} {a : Ab} {tmH tm : List SV} {s0 s sH : St} {ρ : Env} (hρ : EnvOk cx ρ) {β0 β : Bt} {w0 w : World} (h : a.check cx s0.bl.length tmH sH.bl tm s = true) (hs : Sat ρ β s w) (hx : Ext s0 s β0 β w0 w) (hb : inBd a.bds (a.es.map (E.ev ρ))) :
    Ext s0 sH β0 (a.β ρ β) w0 w ∧ ∀ ρ', Agn a.base ρ ρ' → (List.range a.bds.length).map (fun k => ρ'.i (a.base + k)) = a.es.map (E.ev ρ) → (∀ e b, (e, b) ∈ sH.kn → (e.ev ρ' != 0) = b) →
      SV.denL ρ' (a.β ρ β) tmH = SV.denL ρ β tm ∧ Sat ρ' (a.β ρ β) sH w := by
  unfold Ab.check at h
  simp only [Bool.and_eq_true] at h
  obtain ⟨⟨⟨⟨hL, hB⟩, hN⟩, hM⟩, hlen⟩ := h
  have hlen := Nat.le_of_ble_eq_true hlen
  -- a live block of the head stands for a live block
  have hlv : ∀ i, live (a.β ρ β) sH i → ∃ j, j ∈ tgtOf a i ∧ live β s j ∧ (a.β ρ β i).1 = (β j).1 ∧ (i < s0.bl.length → j = i) := by
    rintro i ⟨b, hbi, ho⟩
    have hck := Ab.ckBls_get hB hbi
    rw [Nat.zero_add] at hck
    have hid : i < s0.bl.length → lookT a.mp i = .idx i := lookT_lt hM
    cases b with
    | gone => cases ho
    | cells l e o =>
      simp only [Ab.ckBl] at hck
      split at hck
      · rename_i j hj
        split at hck
        · rename_i l' e' o' hsj
          refine ⟨j, by simp [tgtOf, hj], ⟨_, hsj, rfl⟩, by simp [Ab.β, hj], fun hi => ?_⟩
          rw [hid hi] at hj; cases hj; rfl
        · cases hck
      · cases hck
    | arr k e q n =>
      simp only [Ab.ckBl] at hck
      split at hck
      · rename_i j hj
        split at hck
        · rename_i k' e' q' n' hsj
          have hbe : a.β ρ β i = β j := by simp [Ab.β, hj]
          refine ⟨j, by simp [tgtOf, hj], ⟨_, hsj, ?_⟩, by rw [hbe], fun hi => ?_⟩
          · simp only [SBlk.occ] at ho ⊢
            rw [hbe] at ho; exact ho
          · rw [hid hi] at hj; cases hj; rfl
        · cases hck
      · rename_i hj
        simp [SBlk.occ, Ab.β, hj] at ho
      · rename_i j q' n' c hj
        split at hck
        · rename_i l e' o m hsj
          refine ⟨j, by simp [tgtOf, hj], ⟨_, hsj, rfl⟩, by simp [Ab.β, hj], fun hi => ?_⟩
          rw [hid hi] at hj; cases hj
        · cases hck
      · cases hck
  have hext : Ext s0 sH β0 (a.β ρ β) w0 w := by
    refine ⟨fun j hj => ?_, fun j hj hl => ?_, fun j hj hl => ?_, hx.size, hx.fr, hlen, hx.os, hx.tape, hx.output⟩
    · have : a.β ρ β j = β j := by simp [Ab.β, lookT_lt hM hj]
      rw [this]; exact hx.ag j hj
    · obtain ⟨j', _, h2, _, h4⟩ := hlv j hl
      have := h4 hj
      subst this
      exact hx.old _ hj h2
    · obtain ⟨j', _, h2, h3, _⟩ := hlv j hl
      rw [h3]
      rcases Nat.lt_or_ge j' s0.bl.length with h5 | h5
      · exact .inr ⟨j', hx.old j' h5 h2, by rw [hx.ag j' h5]⟩
      · exact hx.fresh j' h5 h2
  refine ⟨hext, fun ρ' hag hv hk => ⟨Ab.ckL_ok hag hv hb _ _ hL, ?_, ?_, hk, ?_⟩⟩
  · intro i b hbi
    have hck := Ab.ckBls_get hB hbi
    rw [Nat.zero_add] at hck
    cases b with
    | gone => trivial
    | cells l e o =>
      simp only [Ab.ckBl] at hck
      split at hck
      · rename_i j hj
        split at hck
        · rename_i l' e' o' hsj
          simp only [Bool.and_eq_true, beq_iff_eq, decide_eq_true_eq] at hck
          obtain ⟨⟨hl, rfl⟩, rfl⟩ := hck
          have hbe : a.β ρ β i = β j := by simp [Ab.β, hj]
          rw [hbe]
          have := hs.blk j _ hsj
          simp only [blkOk] at this ⊢
          rw [Ab.ckL_ok hag hv hb _ _ hl]
          exact this
        · cases hck
      · cases hck
    | arr k e q n =>
      simp only [Ab.ckBl] at hck
      split at hck
      · rename_i j hj
        split at hck
        · rename_i k' e' q' n' hsj
          simp only [Bool.and_eq_true, beq_iff_eq, decide_eq_true_eq] at hck
          obtain ⟨⟨⟨rfl, rfl⟩, hq⟩, hn⟩ := hck
          have hbe : a.β ρ β i = β j := by simp [Ab.β, hj]
          rw [hbe]
          have := hs.blk j _ hsj
          simp only [blkOk] at this ⊢
          rw [Ab.ckE_ok hag hv hb hq, Ab.ckE_ok hag hv hb hn]
          exact this
        · cases hck
      · rename_i hj
        have := Ab.ckE_ok hag hv hb hck
        left
        refine ⟨by simp [Ab.β, hj], by rw [this]; rfl⟩
      · rename_i j q' n' c hj
        split at hck
        · rename_i l e' o m hsj
          simp only [Bool.and_eq_true, beq_iff_eq, decide_eq_true_eq] at hck
          obtain ⟨⟨⟨⟨⟨⟨⟨hq, hn⟩, rfl⟩, hm0⟩, hml⟩, hcap⟩, hk0⟩, hch⟩ := hck
          split at hch
          · rename_i es hes
            have hqe := E.eq_of_beq hch
            subst hqe
            obtain ⟨g1, g2⟩ := chunkP_ok hρ β m.toNat hes (by simp; omega)
            have hd := g2 0 (fun i => rdZ ((listE es).ev ρ) i) (fun i _ => by rw [Nat.zero_add, listE_ev hρ])
            obtain ⟨tl, hheap, htl, hcp⟩ := hs.blk j _ hsj
            have hbe : a.β ρ β i = ((β j).1, c.getD (β j).2.1 + 1, .nilIface) := by simp [Ab.β, hj]
            rw [hbe]
            right
            have hqv := Ab.ckE_ok hag hv hb hq
            have hnv := Ab.ckE_ok hag hv hb hn
            simp only [E.ev] at hnv
            rw [hqv, hnv]
            have hrow : rowV k ((listE es).ev ρ) m.toNat ++ (SV.denL ρ β (l.drop (m.toNat * k.length)) ++ tl) = SV.denL ρ β l ++ tl := by
              unfold rowV
              rw [← hd, ← List.append_assoc, ← denL_append, List.take_append_drop]
            refine ⟨SV.denL ρ β (l.drop (m.toNat * k.length)) ++ tl, by simp, by rw [hrow]; exact hheap, ?_⟩
            rw [hrow]
            simp only [Nat.add_sub_cancel]
            unfold capOk at hcap
            split at hcap
            · simp only [Bool.and_eq_true, decide_eq_true_eq] at hcap
              rw [htl rfl]
              simp only [List.append_nil, denL_length, Option.getD_some]
              exact ⟨hcap.1, by unfold maxLen; omega⟩
            · simp only [decide_eq_true_eq] at hcap
              subst hcap
              exact hcp _ rfl
            · cases hcap
          · cases hch
        · cases hck
      · cases hck
  · intro i j hi hj he
    obtain ⟨i', t1, l1, a1, _⟩ := hlv i hi
    obtain ⟨j', t2, l2, a2, _⟩ := hlv j hj
    have hij : i' = j' := hs.inj i' j' l1 l2 (by rw [← a1, ← a2]; exact he)
    subst hij
    obtain ⟨bi, hbi, hoi⟩ := hi
    obtain ⟨bj, hbj, hoj⟩ := hj
    exact tgts_inj hN (k := i) (k' := j) hbi hbj (by rintro rfl; cases hoi) (by rintro rfl; cases hoj) (by rwa [Nat.zero_add]) (by rwa [Nat.zero_add])
  · intro k ad i x h1 h2
    rw [hag.ro] at h1 h2
    obtain ⟨h3, h4⟩ := hs.ro k ad i x h1 h2
    refine ⟨h3, fun j hj => ?_⟩
    obtain ⟨j', _, l1, a1, _⟩ := hlv j hj
    rw [a1]
    exact h4 j' l1

end Go.Eng
