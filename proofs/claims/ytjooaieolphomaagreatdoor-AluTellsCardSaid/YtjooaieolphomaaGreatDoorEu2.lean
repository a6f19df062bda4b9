/-
  Several parts in one file: the engine, or its laws.
-/
import Derived.Test.YtjooaieolphomaaGreatDoorEu1
import Derived.Laws.IdiomCopy
import Derived.Laws.MakeOwn
import Derived.Tactics
import Derived.LoopN
import Derived.Scope
import Derived.OrdersHeld

/-! A symbolic executor, part X: rows of a length that is not known: what is written, cut, appended, copied, made. -/
section
set_option linter.unusedVariables false
set_option linter.unusedSimpArgs false
namespace Go.Eng

/-! ### a block of one's own, written anew -/

theorem Sat.reset {ρ : Env} {β : Bt} {s : St} {w : World} (hs : Sat ρ β s w) {j : Nat} {b b' : SBlk} {old cur : Array Value} {e : TypeId} (hj : s.bl[j]? = some b) (ho : b.occ (β j).2.1 = true) (ho' : b'.occ (β j).2.1 = true)
    (hheap : w.heap[(β j).1]? = some (.cells old e (0, 0))) (hg : blkOk ρ β (β j).2.1 b' (some (.cells cur e (0, 0)))) :
    Sat ρ β { s with bl := s.bl.set j b' } (w.setRow (β j).1 cur) ∧ Ext s { s with bl := s.bl.set j b' } β β w (w.setRow (β j).1 cur) := by
  have hlive : live β s j := ⟨b, hj, ho⟩
  have hls : ∀ i, live β { s with bl := s.bl.set j b' } i ↔ live β s i := live_set hj (ho'.trans ho.symm)
  have hw : ∀ b, b ≠ (β j).1 → (w.setRow (β j).1 cur).heap[b]? = w.heap[b]? := fun b hb => setRow_other w _ b _ hb
  have hx : Ext s { s with bl := s.bl.set j b' } β β w (w.setRow (β j).1 cur) := by
    refine ⟨fun _ _ => rfl, fun i _ hl => (hls i).1 hl, ?_, by simp [World.setRow], ?_, by simp, rfl, rfl, rfl⟩
    · intro i hi hl
      have := live_lt ((hls i).1 hl)
      omega
    · intro b hb hn
      exact hw b (fun e => hn j hlive e.symm)
  refine hs.mk' hx ?_ ?_ hs.kn
  · intro i b2 hi
    by_cases hij : j = i
    · subst hij
      have hlt := (List.getElem?_eq_some_iff.1 hj).1
      simp [hlt] at hi
      subst hi
      rw [setRow_heap w (β j).1 old cur e (0, 0) hheap]
      exact hg
    · rw [List.getElem?_set_ne hij] at hi
      refine blkOk_same (fun hocc => ?_) (hs.blk i b2 hi)
      exact hw _ (fun e => hij (hs.inj _ _ hlive ⟨_, hi, hocc⟩ e.symm))
  · intro a b ha hb
    exact hs.inj a b ((hls a).1 ha) ((hls b).1 hb)

/-! ### rows with one part turned -/

theorem rowV_split (cks : List CK) (c : Int) {n i : Nat} (h : i < n) :
    rowV cks c n = tabL (fun i => elemV cks (rdZ c i)) 0 i ++ elemV cks (rdZ c i) ++ tabL (fun i => elemV cks (rdZ c i)) (i + 1) (n - i - 1) := by
  unfold rowV
  obtain ⟨d, rfl⟩ : ∃ d, n = i + (1 + d) := ⟨n - i - 1, by omega⟩
  rw [tabL_append, tabL_append]
  simp only [tabL, List.append_nil, Nat.zero_add, List.append_assoc]
  rw [show i + (1 + d) - i - 1 = d by omega]

theorem list_mid {α : Type} (A B C v : List α) (f m : Nat) (hv : v.length = m) (hf : f + m ≤ B.length) :
    (A ++ B ++ C).take (A.length + f) ++ v ++ (A ++ B ++ C).drop (A.length + f + m) = A ++ (B.take f ++ v ++ B.drop (f + m)) ++ C := by
  have h1 : (A ++ B ++ C).take (A.length + f) = A ++ B.take f := by
    rw [List.append_assoc, List.take_append, List.take_of_length_le (by omega), Nat.add_sub_cancel_left, List.take_append_of_le_length (by omega)]
  have h2 : (A ++ B ++ C).drop (A.length + f + m) = B.drop (f + m) ++ C := by
    rw [List.append_assoc, List.drop_append, List.drop_of_length_le (by omega), List.nil_append, show A.length + f + m - A.length = f + m by omega, List.drop_append_of_le_length hf]
  rw [h1, h2]
  simp

theorem rowV_upd (cks : List CK) (c : Int) {n : Nat} {ix x' : Int} (h : ix.toNat < n) (v : List Value) (f : Nat) (hf : f + v.length ≤ cks.length) (tl : List Value)
    (hx : elemV cks x' = (elemV cks (rdZ c ix)).take f ++ v ++ (elemV cks (rdZ c ix)).drop (f + v.length)) :
    (rowV cks c n ++ tl).take (ix.toNat * cks.length + f) ++ v ++ (rowV cks c n ++ tl).drop (ix.toNat * cks.length + f + v.length) = rowV cks (updZ c ix x') n ++ tl := by
  rw [rowV_split cks c h, rowV_split cks (updZ c ix x') h]
  have e1 : tabL (fun i => elemV cks (rdZ (updZ c ix x') i)) 0 ix.toNat = tabL (fun i => elemV cks (rdZ c i)) 0 ix.toNat :=
    tabL_congr _ _ _ fun k hk => by
      simp only [Nat.zero_add]
      rw [rdZ_upd, if_neg (by rw [Int.toNat_natCast]; omega)]
  have e2 : tabL (fun i => elemV cks (rdZ (updZ c ix x') i)) (ix.toNat + 1) (n - ix.toNat - 1) = tabL (fun i => elemV cks (rdZ c i)) (ix.toNat + 1) (n - ix.toNat - 1) :=
    tabL_congr _ _ _ fun k hk => by
      show elemV cks (rdZ (updZ c ix x') _) = _
      rw [rdZ_upd, if_neg (by rw [Int.toNat_natCast]; omega)]
  have e3 : rdZ (updZ c ix x') (ix.toNat : Nat) = x' := by rw [rdZ_upd, if_pos (by rw [Int.toNat_natCast])]
  have hA : (tabL (fun i => elemV cks (rdZ c i)) 0 ix.toNat).length = ix.toNat * cks.length := tabL_len (fun _ => elemV_len _ _) _ _
  rw [e1, e2, e3, hx]
  have := list_mid (tabL (fun i => elemV cks (rdZ c i)) 0 ix.toNat) (elemV cks (rdZ c ix)) (tabL (fun i => elemV cks (rdZ c i)) (ix.toNat + 1) (n - ix.toNat - 1) ++ tl) v f v.length rfl (by rw [elemV_len]; exact hf)
  rw [hA] at this
  rw [rdZ_toNat]
  simp only [List.append_assoc] at this ⊢
  exact this

theorem oneV_ckV (k : CK) (x : Int) : oneV (ckV k x) = true := by cases k <;> rfl
theorem oneV_elemV (cks : List CK) (x : Int) : ∀ v ∈ elemV cks x, v.oneCell' = true := by
  have hF : ∀ (l : List CK) (f : Nat), ∀ v ∈ elemF x f l, v.oneCell' = true := by
    intro l
    induction l with
    | nil => intro f v hv; cases hv
    | cons k l ih =>
      intro f v hv
      rcases List.mem_cons.1 hv with rfl | hv
      · exact oneV_oneCell (oneV_ckV _ _)
      · exact ih _ v hv
  intro v hv
  unfold elemV at hv
  split at hv
  · rw [List.mem_singleton.1 hv]; exact oneV_oneCell (oneV_ckV _ _)
  · exact hF _ _ v hv

/-- the number of a part, of which some cells are new -/
def updsE (q : E) : Nat → List E → E
  | _, [] => q
  | f, x :: l => updsE (.f 14 q (.c f) x) (f + 1) l

theorem updsE_ev {cx : Cx} {ρ : Env} (hρ : EnvOk cx ρ) : ∀ (l : List E) (q : E) (f : Nat) (r : Nat), rdZ ((updsE q f l).ev ρ) r = if f ≤ r then (match l[r - f]? with | some e => e.ev ρ | none => rdZ (q.ev ρ) r) else rdZ (q.ev ρ) r
  | [], q, f, r => by simp [updsE]
  | x :: l, q, f, r => by
    simp only [updsE]
    rw [updsE_ev hρ l _ (f + 1) r]
    have hq : ((E.f 14 q (.c f) x).ev ρ) = updZ (q.ev ρ) f (x.ev ρ) := by
      simp only [E.ev, rho_f hρ (n := 14) (by omega) (by omega)]; rfl
    rw [hq, rdZ_upd, Int.toNat_natCast, Int.toNat_natCast]
    by_cases h1 : f + 1 ≤ r
    · rw [if_pos h1, if_neg (show ¬ r = f by omega), if_pos (show f ≤ r by omega)]
      rw [show r - f = (r - (f + 1)) + 1 by omega, List.getElem?_cons_succ]
    · rw [if_neg h1]
      by_cases h2 : f = r
      · subst h2; simp
      · rw [if_neg (by omega), if_neg (by omega)]

/-- what is put into a part -/
def newP (cx : Cx) (cks : List CK) (q0 : E) (f : Nat) (l : List SV) : Option E :=
  if f == 0 && l.length == cks.length then codeP cx cks l
  else match cks with
    | [_] => none
    | _ => if f + l.length ≤ cks.length then (codeL cx ((cks.drop f).take l.length) l).map (updsE q0 f) else none

theorem newP_ok {cx : Cx} {ρ : Env} (hρ : EnvOk cx ρ) (β : Bt) {cks : List CK} {q0 x : E} {f : Nat} {l : List SV} (h : newP cx cks q0 f l = some x) :
    f + l.length ≤ cks.length ∧ elemV cks (x.ev ρ) = (elemV cks (q0.ev ρ)).take f ++ SV.denL ρ β l ++ (elemV cks (q0.ev ρ)).drop (f + l.length) := by
  unfold newP at h
  split at h
  · rename_i hc
    simp only [Bool.and_eq_true, beq_iff_eq] at hc
    obtain ⟨rfl, hl⟩ := hc
    refine ⟨by omega, ?_⟩
    rw [← codeP_den hρ β h, List.take_zero, List.nil_append, List.drop_of_length_le (by rw [elemV_len]; omega), List.append_nil]
  · split at h
    · cases h
    · rename_i hn
      split at h
      · rename_i hfl
        obtain ⟨es, hes, rfl⟩ := Option.map_eq_some_iff.1 h
        obtain ⟨g1, g2, g3⟩ := codeL_den hρ β hes
        have gl : ((cks.drop f).take l.length).length = l.length := by simp; omega
        rw [gl] at g2
        refine ⟨hfl, ?_⟩
        have hE : ∀ y : Int, elemV cks y = elemF y 0 cks := by
          intro y
          unfold elemV
          split
          · exact absurd rfl (hn _)
          · rfl
        rw [hE, hE]
        apply List.ext_getElem?
        intro r
        rw [elemF_get, Nat.zero_add]
        have hlen : (elemF (q0.ev ρ) 0 cks).length = cks.length := elemF_len _ _ _
        have h3 : (List.take f (elemF (q0.ev ρ) 0 cks)).length = f := by simp [hlen]; omega
        rw [List.append_assoc, List.getElem?_append]
        rw [h3]
        by_cases h1 : r < f
        · rw [if_pos h1, List.getElem?_take, if_pos h1, elemF_get, Nat.zero_add]
          rw [updsE_ev hρ, if_neg (by omega)]
        · rw [if_neg h1, List.getElem?_append, denL_length]
          by_cases h2 : r - f < l.length
          · rw [if_pos h2]
            have hk : cks[r]? = some cks[r] := List.getElem?_eq_getElem (by omega)
            have hk' : ((cks.drop f).take l.length)[r - f]? = some cks[r] := by
              rw [List.getElem?_take, if_pos h2, List.getElem?_drop, show f + (r - f) = r by omega]; exact hk
            rw [g3 _ _ hk', hk, updsE_ev hρ, if_pos (by omega), List.getElem?_eq_getElem (by omega : r - f < es.length)]
            rfl
          · rw [if_neg h2, List.getElem?_drop, elemF_get, Nat.zero_add, show f + l.length + (r - f - l.length) = r by omega]
            rw [updsE_ev hρ, if_pos (by omega), List.getElem?_eq_none (by omega : es.length ≤ r - f)]
      · cases h

/-! ### what is written -/

def setLL (l : List SV) (base : Nat) (m : List SV) : List SV := l.take base ++ m ++ l.drop (base + m.length)

def rowCells (cx : Cx) (k : CK) (q : E) (len : Nat) : List SV := (List.range len).map fun (r : Nat) => ckS cx k (E.rdA q (.c r))

def storeT (cx : Cx) (t : TypeId) (x v : SV) (s : St) : T St :=
  match x with
  | .ep (.own j) z i f =>
    (match s.bl[j]?, v.cells, szT cx t with
    | some (.arr cks e q n), some l, some m =>
      if cks.length == z && l.length == m && decide (0 < z) then
        (match newP cx cks (E.rdA q i) f l with
        | some x' => obl s (leE cx (.c 0) i) fun s => obl s (ltE cx i n) fun s => .leaf { s with bl := s.bl.set j (.arr cks e (.f 14 q i x') n) }
        | none => .bad 220)
      else .bad 221
    | _, _, _ => .bad 222)
  | .cp j base 1 len i =>
    (match s.bl[j]?, s.cellN j base len, szT cx t with
    | some (.cells L e o), some l, some 1 => (match gather cx l with
      | some (k, q) => (match codeOf cx k v with
        | some x => obl s (leE cx (.c 0) i) fun s => obl s (ltE cx i (.c len)) fun s => .leaf { s with bl := s.bl.set j (.cells (setLL L base (rowCells cx k (.f 14 q i x) len)) e o) }
        | none => .bad 223)
      | none => .bad 224)
    | _, _, _ => .bad 225)
  | x => (match storeS cx t x v s with
    | some s' => .leaf s'
    | none => .bad 226)

theorem cellN_drop {s : St} {j : Nat} {L : List SV} {e : TypeId} {o : Option Nat} (hj : s.bl[j]? = some (.cells L e o)) : ∀ (n off : Nat) {l : List SV}, s.cellN j off n = some l → l = (L.drop off).take n ∧ off + n ≤ max off L.length
  | 0, off, l, h => by simp [St.cellN] at h; subst h; simp; omega
  | n + 1, off, l, h => by
    simp only [St.cellN] at h
    split at h
    · rename_i x m hx hm
      cases h
      obtain ⟨ih1, ih2⟩ := cellN_drop hj n (off + 1) hm
      simp only [St.cell, hj] at hx
      have hlt := (List.getElem?_eq_some_iff.1 hx).1
      refine ⟨?_, by omega⟩
      rw [List.drop_eq_getElem_cons hlt, List.take_succ_cons, ← ih1]
      rw [List.getElem?_eq_getElem hlt] at hx
      cases hx; rfl
    · cases h

section
variable {cx : Cx} {ρ : Env} (hρ : EnvOk cx ρ) {β : Bt} {s s' : St} {w : World}
include hρ

theorem storeT_ok (hs : Sat ρ β s w) {t : TypeId} {X v : SV} (h : (storeT cx t X v s).sel ρ = some s') :
    ∃ w', (Instr.storeAt t (X.den ρ β) (v.den ρ β)).run cx.P w = .ok () w' ∧ Sat ρ β s' w' ∧ Ext s s' β β w w' := by
  unfold storeT at h
  split at h
  · rename_i j z i f
    split at h
    · rename_i cks e q n l m hj hl hm
      split at h
      · rename_i hc
        simp only [Bool.and_eq_true, beq_iff_eq, decide_eq_true_eq] at hc
        obtain ⟨⟨hz, hlm⟩, hz0⟩ := hc
        split at h
        · rename_i x' hx'
          obtain ⟨s1, e1, hs1, h1, h⟩ := obl_ok hs h
          obtain ⟨s2, e2, hs2, h2, h⟩ := obl_ok hs1 h
          cases h
          have g1 := leE_ne hρ h1
          have g2 := ltE_ne hρ h2
          simp only [E.ev] at g1
          obtain ⟨hfl, hel⟩ := newP_ok hρ β hx'
          have e12 : s2.bl = s.bl := e2.trans e1
          have hj2 : s2.bl[j]? = some (.arr cks e q n) := by rw [e12]; exact hj
          rcases hs2.blk j _ hj2 with ⟨_, h0⟩ | ⟨tl, hq, hheap, hlen, hmax⟩
          · omega
          · have hin : (i.ev ρ).toNat < (n.ev ρ).toNat := by omega
            have hup := rowV_upd cks (q.ev ρ) hin (SV.denL ρ β l) f (by simpa using hfl) tl (by rw [denL_length, hel, E.rdA_ev hρ])
            rw [denL_length, hlm] at hup
            have hfit : (i.ev ρ).toNat * z + f + l.length ≤ (rowV cks (q.ev ρ) (n.ev ρ).toNat ++ tl).toArray.size := by
              simp only [List.size_toArray, List.length_append, rowV_len, hz]
              have : (i.ev ρ).toNat * z + z ≤ (n.ev ρ).toNat * z := by
                rw [← Nat.succ_mul]; exact Nat.mul_le_mul_right _ hin
              omega
            obtain ⟨hcl, hone⟩ := SV.cells_den hρ β hl
            have hst := run_storeCells_at cx.P (β j).1 ((i.ev ρ).toNat * z + f) e (SV.denL ρ β l) 0 _ w hheap (by simpa using hfit) (by
              intro u hu
              rw [denL_map] at hu
              obtain ⟨y, hy, rfl⟩ := List.mem_map.1 hu
              exact oneV_oneCell (SV.one_den hρ β (List.all_eq_true.1 hone y hy)))
            simp only [Nat.add_zero, denL_length] at hst
            rw [hlm, ← hz] at hst
            rw [hup] at hst
            have hq' : (E.f 14 q i x').ev ρ = updZ (q.ev ρ) (i.ev ρ) (x'.ev ρ) := by
              simp only [E.ev, rho_f hρ (n := 14) (by omega) (by omega)]; rfl
            obtain ⟨r1, r2⟩ := hs2.reset (b' := .arr cks e (.f 14 q i x') n) (cur := (rowV cks (updZ (q.ev ρ) (i.ev ρ) (x'.ev ρ)) (n.ev ρ).toNat ++ tl).toArray) hj2 (by simp [SBlk.occ, hq]) (by simp [SBlk.occ, hq]) hheap
              (.inr ⟨tl, hq, by rw [hq'], by rw [hq']; simpa [rowV_len] using hlen, hmax⟩)
            refine ⟨_, ?_, r1, (ext_kn2 e12 β w).trans r2⟩
            rw [ep_den ρ β (.own j) z i f (a := ⟨(β j).1, 0, none⟩) (by simp only [bsAddr]; rw [if_neg (by omega)])]
            have hmm : (SV.denL ρ β l).length = m := by simp [hlm]
            simp only [Instr.storeAt, Instr.sureAddr, storeVar, hcl, Sem.run_bind, Sem.run_pure, Result.andThen_ok, run_sizeOf_of hm, addr_add, Nat.zero_add]
            simp only [List.size_toArray, hmm, ne_eq, not_true_eq_false, if_false]
            rw [← hz]
            exact hst
        · cases h
      · cases h
    · cases h
  · rename_i j base len i
    split at h
    · rename_i L e o l hj hl hm
      split at h
      · rename_i k q hg
        split at h
        · rename_i x hx
          obtain ⟨s1, e1, hs1, h1, h⟩ := obl_ok hs h
          obtain ⟨s2, e2, hs2, h2, h⟩ := obl_ok hs1 h
          cases h
          have g1 := leE_ne hρ h1
          have g2 := ltE_ne hρ h2
          simp only [E.ev] at g1 g2
          have e12 : s2.bl = s.bl := e2.trans e1
          have hj2 : s2.bl[j]? = some (.cells L e o) := by rw [e12]; exact hj
          obtain ⟨hl1, hl2⟩ := cellN_drop hj len base hl
          obtain ⟨hln, _⟩ := hs.cellN len base hl
          obtain ⟨tl, hheap, htl, hcap⟩ := hs2.blk j _ hj2
          have hbl : base + len ≤ L.length := by omega
          have hi : (i.ev ρ).toNat < len := by omega
          have hst := run_storeCells_at cx.P (β j).1 (base + (i.ev ρ).toNat) e [v.den ρ β] 0 _ w hheap (by simp; omega) (by
            intro u hu
            rw [List.mem_singleton.1 hu, codeOf_den hρ β hx]
            exact oneV_oneCell (oneV_ckV _ _))
          simp only [Nat.add_zero, List.length_singleton] at hst
          have hq' : (E.f 14 q i x).ev ρ = updZ (q.ev ρ) (i.ev ρ) (x.ev ρ) := by
            simp only [E.ev, rho_f hρ (n := 14) (by omega) (by omega)]; rfl
          have hlen' : (setLL L base (rowCells cx k (.f 14 q i x) len)).length = L.length := by simp [setLL, rowCells]; omega
          have hcur : (SV.denL ρ β L ++ tl).take (base + (i.ev ρ).toNat) ++ [v.den ρ β] ++ (SV.denL ρ β L ++ tl).drop (base + (i.ev ρ).toNat + 1) = SV.denL ρ β (setLL L base (rowCells cx k (.f 14 q i x) len)) ++ tl := by
            apply List.ext_getElem?
            intro r
            have hL : (SV.denL ρ β L).length = L.length := by simp
            have hold : ∀ r', r' < len → (SV.denL ρ β L)[base + r']? = some (ckV k (rdZ (q.ev ρ) r')) := by
              intro r' hr'
              have := gather_ok hρ β hg r' (by omega)
              rw [hl1, denL_get, List.getElem?_take, if_pos hr', List.getElem?_drop] at this
              rw [denL_get]; exact this
            have hnew : ∀ r', r' < len → (SV.denL ρ β (setLL L base (rowCells cx k (.f 14 q i x) len)))[base + r']? = some (ckV k (if r' = (i.ev ρ).toNat then x.ev ρ else rdZ (q.ev ρ) r')) := by
              intro r' hr'
              rw [denL_get]
              simp only [setLL]
              rw [List.append_assoc, List.getElem?_append_right (by simp; omega), List.getElem?_append_left (by simp [rowCells]; omega)]
              simp only [List.length_take, rowCells, List.getElem?_map]
              rw [show base + r' - min base L.length = r' by omega, List.getElem?_range hr']
              simp only [Option.map_some, ckS_den hρ, E.rdA_ev hρ, hq', rdZ_upd]
              simp only [E.ev, Int.toNat_natCast]
              rfl
            have hout : ∀ r', r' < base ∨ base + len ≤ r' → (SV.denL ρ β (setLL L base (rowCells cx k (.f 14 q i x) len)))[r']? = (SV.denL ρ β L)[r']? := by
              intro r' hr'
              rw [denL_get, denL_get]
              simp only [setLL]
              rcases hr' with hr' | hr'
              · rw [List.append_assoc, List.getElem?_append_left (by simp; omega), List.getElem?_take, if_pos hr']
              · rw [List.getElem?_append_right (by simp [rowCells]; omega), List.getElem?_drop]
                congr 2
                simp [rowCells]; omega
            by_cases hr : r < L.length
            · rw [List.getElem?_append_left (l₁ := SV.denL ρ β (setLL L base (rowCells cx k (.f 14 q i x) len))) (by rw [denL_length, hlen']; exact hr)]
              have hlhs : ((SV.denL ρ β L ++ tl).take (base + (i.ev ρ).toNat) ++ [v.den ρ β] ++ (SV.denL ρ β L ++ tl).drop (base + (i.ev ρ).toNat + 1))[r]? = if r = base + (i.ev ρ).toNat then some (v.den ρ β) else (SV.denL ρ β L)[r]? := by
                have ht : (List.take (base + (i.ev ρ).toNat) (SV.denL ρ β L ++ tl)).length = base + (i.ev ρ).toNat := by simp; omega
                rcases Nat.lt_trichotomy r (base + (i.ev ρ).toNat) with h1 | h1 | h1
                · rw [if_neg (by omega), List.append_assoc, List.getElem?_append_left (by omega), List.getElem?_take, if_pos h1, List.getElem?_append_left (by omega)]
                · rw [if_pos h1, List.append_assoc, List.getElem?_append_right (by omega), ht, h1]; simp
                · rw [if_neg (by omega), List.getElem?_append_right (by simp; omega), List.getElem?_drop]
                  simp only [List.length_append, ht, List.length_singleton]
                  rw [show base + (i.ev ρ).toNat + 1 + (r - (base + (i.ev ρ).toNat + 1)) = r by omega, List.getElem?_append_left (by omega)]
              rw [hlhs]
              by_cases hr2 : base ≤ r ∧ r < base + len
              · obtain ⟨r', rfl⟩ : ∃ r', r = base + r' := ⟨r - base, by omega⟩
                rw [hnew r' (by omega)]
                by_cases hr3 : r' = (i.ev ρ).toNat
                · rw [if_pos (by omega), if_pos hr3, codeOf_den hρ β hx]
                · rw [if_neg (by omega), if_neg hr3, hold r' (by omega)]
              · rw [if_neg (by omega), hout r (by omega)]
            · rw [List.getElem?_append_right (l₁ := SV.denL ρ β (setLL L base (rowCells cx k (.f 14 q i x) len))) (by rw [denL_length, hlen']; omega), denL_length, hlen']
              rw [List.getElem?_append_right (by simp; omega), List.getElem?_drop]
              simp only [List.length_append, List.length_take, List.length_singleton, hL]
              rw [show base + (i.ev ρ).toNat + 1 + (r - (min (base + (i.ev ρ).toNat) (L.length + tl.length) + 1)) = r by omega, List.getElem?_append_right (by omega), hL]
          obtain ⟨r1, r2⟩ := hs2.reset (b' := .cells (setLL L base (rowCells cx k (.f 14 q i x) len)) e o) (cur := (SV.denL ρ β (setLL L base (rowCells cx k (.f 14 q i x) len)) ++ tl).toArray) hj2 rfl rfl hheap
            ⟨tl, rfl, htl, fun sz hsz => by have := hcap sz hsz; simpa [hlen'] using this⟩
          refine ⟨_, ?_, r1, (ext_kn2 e12 β w).trans r2⟩
          have hcl : (v.den ρ β).cells = #[v.den ρ β] := by
            rw [codeOf_den hρ β hx]
            cases k <;> rfl
          rw [hcur] at hst
          simp only [SV.den, Instr.storeAt, Instr.sureAddr, storeVar, hcl, Sem.run_bind, Sem.run_pure, Result.andThen_ok, run_sizeOf_of hm, Nat.mul_one]
          simpa using hst
        · cases h
      · cases h
    · cases h
  · split at h
    · rename_i s2 h2
      cases h
      obtain ⟨w', a1, a2, a3, _⟩ := storeS_ok hρ hs h2
      exact ⟨w', a1, a2, a3⟩
    · cases h

end

end Go.Eng
end

/-! A symbolic executor, part Y: rows of a length that is not known: lengths, cuts, what is appended. -/
section
set_option linter.unusedVariables false
set_option linter.unusedSimpArgs false
namespace Go.Eng

/-! ### lengths -/

def lenT (cx : Cx) (ats : Array TypeId) (x : SV) (s : St) : R :=
  match ats[0]? with
  | none => .bad 230
  | some t => match cx.und t, x with
    | some (.slice _), .sl _ _ _ len _ => obl s (leE cx (.c 0) len) fun s => ret s (.int .i64 len)
    | some .string, .str e => ret s (.int .i64 (.f 21 e (.c 0) (.c 0)))
    | _, _ => (match lenS cx ats x with
      | some v => ret s v
      | none => .bad 231)

theorem lenT_ok {cx : Cx} {ρ : Env} (hρ : EnvOk cx ρ) {β : Bt} {s s' : St} {w : World} (hs : Sat ρ β s w) {ats : Array TypeId} {ty : TypeId} {X v : SV} {args : Array Value} (h0 : args[0]? = some (X.den ρ β))
    (h : (lenT cx ats X s).sel ρ = some (v, s')) : LookOk cx ρ β s s' w (Builtin.len_ ats ty args) v := by
  unfold lenT at h
  split at h
  · cases h
  · rename_i t ht
    split at h
    · rename_i e b z off len cap hu
      obtain ⟨s1, e1, hs1, h1, h⟩ := obl_ok hs h
      cases h
      have g1 := leE_ne hρ h1
      simp only [E.ev] at g1
      refine ⟨?_, e1, hs1⟩
      rw [sl_den] at h0
      simp [Builtin.len_, ht, h0, run_und hu, SV.den, goInt]
      omega
    · rename_i e hu
      cases h
      refine ⟨?_, rfl, hs⟩
      have hsz := strOf_size (e.ev ρ)
      simp only [SV.den] at h0
      simp only [Builtin.len_, ht, h0, Sem.run_bind, run_und hu, Result.andThen_ok, SV.den, E.ev, rho_f hρ (n := 21) (by omega) (by omega), fL, goInt, Sem.run_pure, hsz]
    · split at h
      · rename_i r hr
        cases h
        exact ⟨lenS_ok h0 hr, rfl, hs⟩
      · cases h

/-! ### cuts -/

def optE : Option SV → E → Option E
  | none, d => some d
  | some (.int _ e), _ => some e
  | _, _ => none

/-- where a cut begins: where nothing is left of the room the place stays -/
def cutOff (cx : Cx) (cap off lo : E) : E :=
  match lo with
  | .c 0 => off
  | lo => match E.b' cx .eq .i64 cap lo with
    | .c n => if n = 0 then addE off lo else off
    | t => .ite t off (addE off lo)

def isZero : E → Bool
  | .c n => decide (n = 0)
  | _ => false
theorem isZero_ok {e : E} (h : isZero e = true) : e = .c 0 := by cases e <;> simp [isZero] at h; rw [h]

def sliceT (cx : Cx) (t : TypeId) (x : SV) (lo hi mx : Option SV) (s : St) : R :=
  match cx.und t, x, mx with
  | some (.slice e), .sl b z off len cap, none =>
    (match optE lo (.c 0), optE hi len, rowOf cx s b, szT cx e with
    | some l, some h, some (cks, _, n), some z' =>
      if z' == z && cks.length == z && decide (0 < z) && lo0 (off.iv cx) then
        obl s (leE cx (.c 0) l) fun s => obl s (leE cx l h) fun s => obl s (leE cx (.c 0) len) fun s =>
        (match cap with
        | some cp => obl s (leE cx h cp) fun s => ret s (.sl b z (cutOff cx cp off l) (subE h l) (some (subE cp l)))
        | none => match b with
          | .own _ => if isZero off && isZero l then obl s (leE cx h n) fun s => ret s (.sl b z (.c 0) h none) else .bad 240
          | _ => .bad 240)
      else .bad 241
    | _, _, _, _ => .bad 242)
  | _, _, _ => (match sliceS cx t x lo hi mx s with
    | some v => ret s v
    | none => .bad 243)

section
variable {cx : Cx} {ρ : Env} (hρ : EnvOk cx ρ) {β : Bt} {s s' : St} {w : World}
include hρ

theorem cutOff_ev (cap off lo : E) : (cutOff cx cap off lo).ev ρ = if lo.ev ρ = 0 then off.ev ρ else if cap.ev ρ = lo.ev ρ then off.ev ρ else off.ev ρ + lo.ev ρ := by
  have hq := E.b'_ev hρ .eq .i64 cap lo
  simp only [BO.ev] at hq
  have key : (match E.b' cx .eq .i64 cap lo with
    | .c n => if n = 0 then addE off lo else off
    | t => .ite t off (addE off lo)).ev ρ = if cap.ev ρ = lo.ev ρ then off.ev ρ else off.ev ρ + lo.ev ρ := by
    split
    · rename_i n hn
      rw [hn] at hq
      simp only [E.ev, bool01] at hq
      split at hq
      · rename_i hh
        simp at hh
        subst hq
        simp [hh]
      · rename_i hh
        simp at hh
        subst hq
        simp [hh, addE_ev]
    · rename_i t _
      simp only [E.ev, hq, bool01]
      split
      · rename_i hh
        simp at hh
        simp [hh]
      · rename_i hh
        simp at hh
        simp [hh, addE_ev]
  unfold cutOff
  split
  · simp [E.ev]
  · rename_i hne
    rw [key]
    by_cases h0 : lo.ev ρ = 0
    · simp [h0]
    · simp [h0]

omit hρ in
theorem optE_bound {lo : Option SV} {d l : E} (h : optE lo d = some l) {y : Nat} {c : BoundsCode} (hl : 0 ≤ l.ev ρ) (hy : l.ev ρ ≤ y) :
    ∀ v, lo = some v → (Instr.sliceBound (v.den ρ β) y c).run cx.P w = .ok (l.ev ρ).toNat w := by
  rintro v rfl
  cases v <;> simp only [optE] at h <;> try (cases h; done)
  cases h
  simp [Instr.sliceBound, SV.den, asIntOf, hl, hy]

theorem sliceT_ok (hs : Sat ρ β s w) {t : TypeId} {X v : SV} {lo hi mx : Option SV} (h : (sliceT cx t X lo hi mx s).sel ρ = some (v, s')) :
    LookOk cx ρ β s s' w (Instr.sliceAt t (X.den ρ β) (lo.map (SV.den ρ β)) (hi.map (SV.den ρ β)) (mx.map (SV.den ρ β))) v := by
  unfold sliceT at h
  split at h
  · rename_i e b z off len cap hu
    split at h
    · rename_i l hh cks q n z' hl hh' hrow hz'
      split at h
      · rename_i hc
        simp only [Bool.and_eq_true, beq_iff_eq, decide_eq_true_eq] at hc
        obtain ⟨⟨⟨rfl, hcks⟩, hz0⟩, hoff⟩ := hc
        obtain ⟨s1, e1, hs1, h1, hA⟩ := obl_ok hs h
        obtain ⟨s2, e2, hs2, h2, hB⟩ := obl_ok hs1 hA
        obtain ⟨s3, e3, hs3, h3, hC⟩ := obl_ok hs2 hB
        clear h hA hB
        have g1 := leE_ne hρ h1
        have g2 := leE_ne hρ h2
        have g3 := leE_ne hρ h3
        have g0 := lo0_ok hoff (E.iv_ok hρ off)
        simp only [E.ev] at g1 g3
        -- the bounds
        have hbounds : ∀ CAP : Nat, hh.ev ρ ≤ CAP ∨ hi = none → (Instr.sliceBounds true (len.ev ρ).toNat CAP (lo.map (SV.den ρ β)) (hi.map (SV.den ρ β)) none).run cx.P w = .ok ((l.ev ρ).toNat, (hh.ev ρ).toNat, CAP) w := by
          intro CAP hcap
          cases hi with
          | none =>
            simp only [optE, Option.some.injEq] at hh'
            subst hh'
            cases lo with
            | none =>
              simp only [optE, Option.some.injEq] at hl
              subst hl
              simp [Instr.sliceBounds, E.ev]
            | some lv =>
              have := optE_bound (cx := cx) (β := β) (w := w) hl (y := (len.ev ρ).toNat) (c := .sliceB) g1 (by omega) lv rfl
              simp [Instr.sliceBounds, this]
          | some hv =>
            have hcap' : hh.ev ρ ≤ CAP := by
              rcases hcap with h | h
              · exact h
              · cases h
            have b1 := optE_bound (cx := cx) (β := β) (w := w) hh' (y := CAP) (c := .sliceAcap) (by omega) hcap' hv rfl
            cases lo with
            | none =>
              simp only [optE, Option.some.injEq] at hl
              subst hl
              simp [Instr.sliceBounds, b1, E.ev]
            | some lv =>
              have b2 := optE_bound (cx := cx) (β := β) (w := w) hl (y := (hh.ev ρ).toNat) (c := .sliceB) g1 (by omega) lv rfl
              simp [Instr.sliceBounds, b1, b2]
        cases cap with
        | some cp =>
          simp only at hC
          obtain ⟨s4, e4, hs4, h4, hD⟩ := obl_ok hs3 hC
          cases hD
          have g4 := leE_ne hρ h4
          refine ⟨?_, e4.trans (e3.trans (e2.trans e1)), hs4⟩
          rw [sl_den, sl_den]
          have hb := hbounds (cp.ev ρ).toNat (.inl (by omega))
          simp only [slCap, Option.map_none, Instr.sliceAt, Instr.slice, Sem.run_bind, run_und hu, Result.andThen_ok, hb, run_sizeOf_of hz', Sem.run_pure, subE_ev, cutOff_ev hρ]
          congr 1
          have ec : ((cp.ev ρ).toNat = (l.ev ρ).toNat) ↔ (cp.ev ρ = l.ev ρ) := by omega
          by_cases hcl : cp.ev ρ = l.ev ρ
          · rw [if_pos (ec.2 hcl), if_pos hcl]
            simp only [ite_self]
            congr 1 <;> omega
          · rw [if_neg (fun h => hcl (ec.1 h)), if_neg hcl]
            have : ((bsAddr ρ β b).map (·.add ((off.ev ρ).toNat * z'))).map (·.add ((l.ev ρ).toNat * z')) = (bsAddr ρ β b).map (·.add ((if l.ev ρ = 0 then off.ev ρ else off.ev ρ + l.ev ρ).toNat * z')) := by
              rw [Option.map_map]
              congr 1
              funext a
              simp only [Function.comp, addr_add2]
              congr 1
              split
              · rename_i h0; rw [h0]; simp
              · rw [Int.toNat_add g0 g1, Nat.add_mul]
            rw [this]
            congr 1 <;> omega
        | none =>
          cases b with
          | inp k => cases hC
          | own j =>
            simp only at hC
            split at hC
            case isFalse => cases hC
            rename_i hzz
            simp only [Bool.and_eq_true] at hzz
            have ho0 := isZero_ok hzz.1
            have hl0 := isZero_ok hzz.2
            subst ho0
            subst hl0
            obtain ⟨s4, e4, hs4, h4, hD⟩ := obl_ok hs3 hC
            cases hD
            have g4 := leE_ne hρ h4
            refine ⟨?_, e4.trans (e3.trans (e2.trans e1)), hs4⟩
            rw [sl_den, sl_den]
            -- the capacity is not less than what is told
            have hcapn : (n.ev ρ).toNat ≤ (β j).2.1 - 1 := by
              simp only [rowOf] at hrow
              split at hrow
              · rename_i cks' e' q' n' hj
                cases hrow
                rcases hs.blk j _ hj with ⟨_, h0⟩ | ⟨tl, hq, hheap, hlen, hmax⟩
                · omega
                · have hle : (n.ev ρ).toNat * cks.length ≤ ((β j).2.1 - 1) * cks.length := by
                    rw [← hlen, List.length_append, rowV_len]; omega
                  exact Nat.le_of_mul_le_mul_right hle (by omega)
              · cases hrow
            have hb := hbounds ((β j).2.1 - 1) (.inl (by omega))
            simp only [E.ev] at hb
            simp only [slCap, Option.map_none, Instr.sliceAt, Instr.slice, Sem.run_bind, run_und hu, Result.andThen_ok, run_sizeOf_of hz', Sem.run_pure, hb]
            simp [E.ev, addr_add2]
            intro _
            congr 1
      · cases h
    · cases h
  · split at h
    · rename_i r hr
      cases h
      exact ⟨sliceS_ok hs hr, rfl, hs⟩
    · cases h

end

/-! ### what is appended -/

inductive Src where
  | list (l : List E)
  | row (d off m : E)

def dropE (d off : E) : E :=
  match off with
  | .c 0 => d
  | off => .f 18 d off (.c 0)
def Src.n : Src → E
  | .list l => .c l.length
  | .row _ _ m => m
def putsE (q n : E) : List E → E
  | [] => q
  | x :: l => putsE (.f 14 q n x) (addE n (.c 1)) l
def Src.put (q n : E) : Src → E
  | .list l => putsE q n l
  | .row d off _ => .f 16 q n (dropE d off)
noncomputable def Src.at (ρ : Env) : Src → Nat → Int
  | .list l, i => ((l[i]?).map (E.ev ρ)).getD 0
  | .row d off _, i => rdZ (d.ev ρ) (((off.ev ρ).toNat + i : Nat) : Int)

theorem putsE_ev {cx : Cx} {ρ : Env} (hρ : EnvOk cx ρ) : ∀ (l : List E) (q n : E), 0 ≤ n.ev ρ → ∀ i : Nat, i < (n.ev ρ).toNat + l.length →
    rdZ ((putsE q n l).ev ρ) i = if i < (n.ev ρ).toNat then rdZ (q.ev ρ) i else ((l[i - (n.ev ρ).toNat]?).map (E.ev ρ)).getD 0
  | [], q, n, hn, i, hi => by
    simp only [List.length_nil, Nat.add_zero] at hi
    simp only [putsE]; rw [if_pos hi]
  | x :: l, q, n, hn, i, hi => by
    have hn1 : (addE n (.c 1)).ev ρ = n.ev ρ + 1 := by rw [addE_ev]; rfl
    have hn2 : ((addE n (.c 1)).ev ρ).toNat = (n.ev ρ).toNat + 1 := by rw [hn1]; omega
    simp only [putsE]
    rw [putsE_ev hρ l _ _ (by rw [hn1]; omega) i (by rw [hn2]; simp at hi; omega), hn2]
    have hq : ((E.f 14 q n x).ev ρ) = updZ (q.ev ρ) (n.ev ρ) (x.ev ρ) := by
      simp only [E.ev, rho_f hρ (n := 14) (by omega) (by omega)]; rfl
    rw [hq, rdZ_upd, Int.toNat_natCast]
    by_cases h1 : i < (n.ev ρ).toNat
    · rw [if_pos (by omega), if_neg (by omega), if_pos h1]
    · rw [if_neg h1]
      by_cases h2 : i = (n.ev ρ).toNat
      · rw [if_pos (by omega), if_pos h2, h2]; simp
      · rw [if_neg (by omega), show i - (n.ev ρ).toNat = (i - ((n.ev ρ).toNat + 1)) + 1 by omega, List.getElem?_cons_succ]

theorem dropE_ev {cx : Cx} {ρ : Env} (hρ : EnvOk cx ρ) (d off : E) (i : Nat) : rdZ ((dropE d off).ev ρ) i = rdZ (d.ev ρ) (((off.ev ρ).toNat + i : Nat) : Int) := by
  unfold dropE
  split
  · simp [E.ev]
  · simp only [E.ev, rho_f hρ (n := 18) (by omega) (by omega), fL]
    rw [rdZ_drop, Int.toNat_natCast]

theorem Src.put_ev {cx : Cx} {ρ : Env} (hρ : EnvOk cx ρ) (x : Src) (q n : E) (hn : 0 ≤ n.ev ρ) (i : Nat) (hi : i < (n.ev ρ).toNat + (x.n.ev ρ).toNat) :
    rdZ ((x.put q n).ev ρ) i = if i < (n.ev ρ).toNat then rdZ (q.ev ρ) i else x.at ρ (i - (n.ev ρ).toNat) := by
  cases x with
  | list l =>
    simp only [Src.n, E.ev, Int.toNat_natCast] at hi
    exact putsE_ev hρ l q n hn i hi
  | row d off m =>
    simp only [Src.put, Src.at]
    have : ((E.f 16 q n (dropE d off)).ev ρ) = appZ (q.ev ρ) (n.ev ρ) ((dropE d off).ev ρ) := by
      simp only [E.ev, rho_f hρ (n := 16) (by omega) (by omega)]; rfl
    rw [this, rdZ_app, Int.toNat_natCast]
    split
    · rfl
    · rw [dropE_ev hρ]

/-- the numbers of parts that lie one behind the other -/
def chunkP (cx : Cx) (cks : List CK) (z : Nat) : Nat → List SV → Option (List E)
  | 0, _ => some []
  | n + 1, l => match codeP cx cks (l.take z), chunkP cx cks z n (l.drop z) with
    | some e, some es => some (e :: es)
    | _, _ => none

theorem chunkP_ok {cx : Cx} {ρ : Env} (hρ : EnvOk cx ρ) (β : Bt) {cks : List CK} : ∀ (n : Nat) {l : List SV} {es : List E}, chunkP cx cks cks.length n l = some es → l.length = n * cks.length →
    es.length = n ∧ ∀ i0 : Nat, ∀ f : Nat → Int, (∀ i, i < n → f (i0 + i) = ((es[i]?).map (E.ev ρ)).getD 0) → SV.denL ρ β l = tabL (fun i => elemV cks (f i)) i0 n
  | 0, l, es, h, hl => by
    cases h
    have : l = [] := List.length_eq_zero_iff.1 (by simpa using hl)
    subst this
    exact ⟨rfl, fun _ _ _ => rfl⟩
  | n + 1, l, es, h, hl => by
    simp only [chunkP] at h
    split at h
    · rename_i e es' he hes
      cases h
      have hl' : (l.drop cks.length).length = n * cks.length := by rw [List.length_drop, hl, Nat.succ_mul]; omega
      obtain ⟨g1, g2⟩ := chunkP_ok hρ β n hes hl'
      refine ⟨by simp [g1], fun i0 f hf => ?_⟩
      have h0 := hf 0 (by omega)
      simp only [Nat.add_zero, List.getElem?_cons_zero, Option.map_some, Option.getD_some] at h0
      have hr := g2 (i0 + 1) f (fun i hi => by
        have := hf (i + 1) (by omega)
        rw [show i0 + 1 + i = i0 + (i + 1) by omega, this]; simp)
      simp only [tabL]
      rw [h0, ← codeP_den hρ β he, ← hr, ← denL_append, List.take_append_drop]
    · cases h

def srcOf (cx : Cx) (cks : List CK) (y : SV) (s : St) : Option Src :=
  match y with
  | .slice j off m _ => match s.cellN j off (m * cks.length) with
    | some l => (chunkP cx cks cks.length m l).map .list
    | none => none
  | .lit (.slice none 0 _) => some (.list [])
  | .sl b z off m _ => match rowOf cx s b with
    | some (cks', d, _) => if z == cks.length && decide (cks' = cks) then some (.row d off m) else none
    | none => none
  | _ => none

/-- what must hold of it -/
def srcOb (cx : Cx) (y : SV) (s : St) (k : St → R) : R :=
  match y with
  | .sl b _ off m _ => match rowOf cx s b with
    | some (_, _, n) => obl s (leE cx (.c 0) off) fun s => obl s (leE cx (.c 0) m) fun s => obl s (leE cx (addE off m) n) k
    | none => .bad 250
  | _ => k s

section
variable {cx : Cx} {ρ : Env} (hρ : EnvOk cx ρ) {β : Bt} {s s' : St} {w : World}
include hρ

theorem srcOf_ok (hs : Sat ρ β s w) {cks : List CK} (hz : 0 < cks.length) {y : SV} {x : Src} (h : srcOf cx cks y s = some x) {k : St → R} {r : SV × St} (hk : (srcOb cx y s k).sel ρ = some r) :
    ∃ s1, s1.bl = s.bl ∧ Sat ρ β s1 w ∧ (k s1).sel ρ = some r ∧ 0 ≤ x.n.ev ρ ∧ ∃ a c, y.den ρ β = .slice a (x.n.ev ρ).toNat c ∧
      ((x.n.ev ρ).toNat ≠ 0 → ∃ a', a = some a' ∧ ∀ i v, (tabL (fun i => elemV cks (x.at ρ i)) 0 (x.n.ev ρ).toNat)[i]? = some v → w.cell? (a'.add i) = some v) := by
  unfold srcOf at h
  split at h
  · rename_i j off m c
    split at h
    · rename_i l hl
      obtain ⟨es, hes, rfl⟩ := Option.map_eq_some_iff.1 h
      obtain ⟨hln, hcells⟩ := hs.cellN _ off hl
      obtain ⟨g1, g2⟩ := chunkP_ok hρ β m hes hln
      simp only [srcOb] at hk
      refine ⟨s, rfl, hs, hk, by simp [Src.n, E.ev], some ⟨(β j).1, off, none⟩, _, by simp [SV.den, Src.n, E.ev, g1]; rfl, fun _ => ⟨_, rfl, fun i v hv => ?_⟩⟩
      have hd := g2 0 ((Src.list es).at ρ) (fun i _ => by simp [Src.at])
      simp only [Src.n, E.ev, Int.toNat_natCast, g1] at hv
      rw [← hd, denL_get] at hv
      obtain ⟨y, hy, rfl⟩ := Option.map_eq_some_iff.1 hv
      rw [addr_add]
      exact hcells i y hy
    · cases h
  · cases h
    simp only [srcOb] at hk
    exact ⟨s, rfl, hs, hk, by simp [Src.n, E.ev], none, _, by simp [SV.den, Src.n, E.ev]; rfl, fun h => absurd rfl h⟩
  · rename_i b z off m c
    split at h
    · rename_i cks' d n hrow
      split at h
      · rename_i hc
        simp only [Bool.and_eq_true, beq_iff_eq, decide_eq_true_eq] at hc
        obtain ⟨rfl, rfl⟩ := hc
        cases h
        simp only [srcOb, hrow] at hk
        obtain ⟨s1, e1, hs1, h1, hk⟩ := obl_ok hs hk
        obtain ⟨s2, e2, hs2, h2, hk⟩ := obl_ok hs1 hk
        obtain ⟨s3, e3, hs3, h3, hk⟩ := obl_ok hs2 hk
        have g1 := leE_ne hρ h1
        have g2 := leE_ne hρ h2
        have g3 := leE_ne hρ h3
        rw [addE_ev] at g3
        simp only [E.ev] at g1 g2
        refine ⟨s3, e3.trans (e2.trans e1), hs3, hk, g2, _, _, sl_den ρ β b _ off m c, fun hm => ?_⟩
        simp only [Src.n] at hm ⊢
        obtain ⟨a, ha, _⟩ := row_cell hρ hs hrow (i := (off.ev ρ).toNat) (by omega)
        rw [ha]
        refine ⟨_, rfl, fun i v hv => ?_⟩
        have hlen := tabL_len (f := fun i => elemV cks' ((Src.row d off m).at ρ i)) (z := cks'.length) (fun _ => elemV_len _ _) (m.ev ρ).toNat 0
        have hi : i < (m.ev ρ).toNat * cks'.length := by rw [← hlen]; exact (List.getElem?_eq_some_iff.1 hv).1
        have hk1 : i / cks'.length < (m.ev ρ).toNat := Nat.div_lt_of_lt_mul (by rw [Nat.mul_comm]; exact hi)
        have hr1 : i % cks'.length < cks'.length := Nat.mod_lt _ hz
        have hii : i = i / cks'.length * cks'.length + i % cks'.length := by rw [Nat.mul_comm]; exact (Nat.div_add_mod _ _).symm
        rw [hii, tabL_get (fun _ => elemV_len _ _) _ _ _ _ hk1 hr1, Nat.zero_add] at hv
        obtain ⟨a2, ha2, hcell⟩ := row_cell hρ hs hrow (i := (off.ev ρ).toNat + i / cks'.length) (by omega)
        rw [ha] at ha2
        cases ha2
        have := hcell (i % cks'.length) v hv
        rw [addr_add2]
        rw [hii, show (off.ev ρ).toNat * cks'.length + (i / cks'.length * cks'.length + i % cks'.length) = ((off.ev ρ).toNat + i / cks'.length) * cks'.length + i % cks'.length by rw [Nat.add_mul]; omega]
        exact this
      · cases h
    · cases h
  · cases h

end

inductive Dst where
  | nil
  | arr (j : Nat) (e : TypeId) (q n : E)
  | conc (j : Nat) (e : TypeId) (q n : E)
def Dst.q : Dst → E
  | .nil => .c 0
  | .arr _ _ q _ => q
  | .conc _ _ q _ => q
def Dst.n : Dst → E
  | .nil => .c 0
  | .arr _ _ _ n => n
  | .conc _ _ _ n => n
def Dst.st (s : St) : Dst → St
  | .nil => s
  | .arr j _ _ _ => s.drop j
  | .conc j _ _ _ => s.drop j

def dstOf' (cx : Cx) (cks : List CK) (e : TypeId) (x : SV) (s : St) : Option Dst :=
  match x with
  | .lit (.slice none 0 0) => some .nil
  | .sl (.own j) z (.c 0) len none => match s.bl[j]? with
    | some (.arr cks' e' q n) => if z == cks.length && decide (cks' = cks) && e' == e && n.beq len then some (.arr j e q n) else none
    | _ => none
  | .slice j 0 n c => match s.bl[j]? with
    | some (.cells l e' o) => if e' == e && decide (n * cks.length ≤ l.length) && capOk c o l.length cks.length then
        (chunkP cx cks cks.length n (l.take (n * cks.length))).map fun es => .conc j e (listE es) (.c n) else none
    | _ => none
  | _ => none

/-- a row that may be appended to: its place and its room -/
def RowAtD (ρ : Env) (β : Bt) (s : St) (w : World) (cks : List CK) (e : TypeId) (d : Dst) (V : Value) : Prop :=
  (V = .slice none 0 0 ∧ (d.n.ev ρ).toNat = 0 ∧ ∀ (j : Nat) (b : SBlk), s.bl[j]? = some b → (d.st s).bl[j]? = some b ∨ ((d.st s).bl[j]? = some SBlk.gone ∧ b.occ (β j).2.1 = false)) ∨
  (∃ (j : Nat) (b : SBlk) (cap : Nat) (tl : List Value), s.bl[j]? = some b ∧ b.occ (β j).2.1 = true ∧ d.st s = s.drop j ∧ V = .slice (some ⟨(β j).1, 0, none⟩) (d.n.ev ρ).toNat cap ∧
    w.heap[(β j).1]? = some (.cells (rowV cks (d.q.ev ρ) (d.n.ev ρ).toNat ++ tl).toArray e (0, 0)) ∧ (rowV cks (d.q.ev ρ) (d.n.ev ρ).toNat ++ tl).length = cap * cks.length ∧ cap ≤ maxLen)

theorem dstOf_ok {cx : Cx} {ρ : Env} (hρ : EnvOk cx ρ) {β : Bt} {s : St} {w : World} (hs : Sat ρ β s w) {cks : List CK} {e : TypeId} {x : SV} {d : Dst} (h : dstOf' cx cks e x s = some d) :
    RowAtD ρ β s w cks e d (x.den ρ β) := by
  unfold dstOf' at h
  split at h
  · cases h
    exact .inl ⟨rfl, by simp [Dst.n, E.ev], fun j b hj => .inl hj⟩
  · rename_i j z len
    split at h
    · rename_i cks' e' q n hj
      split at h
      · rename_i hc
        simp only [Bool.and_eq_true, beq_iff_eq, decide_eq_true_eq] at hc
        obtain ⟨⟨⟨rfl, rfl⟩, rfl⟩, hn⟩ := hc
        have hn := E.eq_of_beq hn
        subst hn
        cases h
        rcases hs.blk j _ hj with ⟨h0, hn0⟩ | ⟨tl, hq, hheap, hlen, hmax⟩
        · left
          refine ⟨by simp [SV.den, h0, hn0], hn0, fun i b hi => ?_⟩
          by_cases hij : i = j
          · subst hij
            right
            rw [hj] at hi
            cases hi
            refine ⟨?_, by simp [SBlk.occ, h0]⟩
            have := (List.getElem?_eq_some_iff.1 hj).1
            show (s.drop i).bl[i]? = _
            simp [St.drop, this]
          · left
            show (s.drop j).bl[i]? = _
            simp [St.drop, List.getElem?_set_ne (Ne.symm hij), hi]
        · right
          refine ⟨j, _, (β j).2.1 - 1, tl, hj, by simp [SBlk.occ, hq], rfl, ?_, hheap, hlen, hmax⟩
          show _ = Value.slice _ (n.ev ρ).toNat _
          simp only [SV.den, E.ev]
          rw [if_neg (by omega)]
          simp
      · cases h
    · cases h
  · rename_i j n c
    split at h
    · rename_i l e' o hj
      split at h
      · rename_i hc
        simp only [Bool.and_eq_true, beq_iff_eq, decide_eq_true_eq] at hc
        obtain ⟨⟨rfl, hln⟩, hcap⟩ := hc
        obtain ⟨es, hes, rfl⟩ := Option.map_eq_some_iff.1 h
        obtain ⟨g1, g2⟩ := chunkP_ok hρ β n hes (by simp; omega)
        obtain ⟨tl, hheap, htl, hcp⟩ := hs.blk j _ hj
        have hd := g2 0 (fun i => rdZ ((listE es).ev ρ) i) (fun i _ => by rw [Nat.zero_add, listE_ev hρ])
        right
        refine ⟨j, _, c.getD (β j).2.1, SV.denL ρ β (l.drop (n * cks.length)) ++ tl, hj, rfl, rfl, by simp [SV.den, Dst.n, E.ev], ?_⟩
        have hrow : rowV cks ((listE es).ev ρ) n ++ (SV.denL ρ β (l.drop (n * cks.length)) ++ tl) = SV.denL ρ β l ++ tl := by
          unfold rowV
          rw [← hd, ← List.append_assoc, ← denL_append, List.take_append_drop]
        simp only [Dst.n, Dst.q, E.ev, Int.toNat_natCast]
        rw [hrow]
        refine ⟨hheap, ?_⟩
        unfold capOk at hcap
        split at hcap
        · simp only [Bool.and_eq_true, decide_eq_true_eq] at hcap
          rw [htl rfl]
          simp only [List.append_nil, denL_length, Option.getD_some]
          exact ⟨hcap.1, by unfold maxLen; omega⟩
        · simp only [decide_eq_true_eq] at hcap
          subst hcap
          exact hcp _ rfl
        · cases hcap
      · cases h
    · cases h
  · cases h

def appendT (cx : Cx) (cks : List CK) (ats : Array TypeId) (x y : SV) (s : St) : R :=
  match ats.toList with
  | [t, t'] =>
    (match cx.und t with
    | some (.slice e) => (match cx.inf e with
      | some i => (match i.zero with
        | some zv =>
          if decide (t = t') && decide (0 < i.size) && decide (zv.cells.size = i.size) && decide (i.bytes ≤ 1000000) && s.sc s.bl.length && (cks.length == i.size) then
            (match srcOf cx cks y s, dstOf' cx cks e x s with
            | some src, some d => srcOb cx y s fun s => obl s (leE cx (.c 0) d.n) fun s => obl s (leE cx (addE d.n src.n) (.c 1000000)) fun s =>
                ret ((d.st s).pushB (.arr cks e (src.put d.q d.n) (addE d.n src.n))) (.sl (.own s.bl.length) cks.length (.c 0) (addE d.n src.n) none)
            | _, _ => .bad 251)
          else .bad 252
        | none => .bad 253)
      | none => .bad 254)
    | _ => .bad 255)
  | _ => .bad 256

theorem St.drop_len (s : St) (j : Nat) : (s.drop j).bl.length = s.bl.length := by simp [St.drop]
theorem Dst.st_len (s : St) (d : Dst) : (d.st s).bl.length = s.bl.length := by cases d <;> simp [Dst.st, St.drop_len]
theorem drop_sc' {s : St} {j n : Nat} (h : s.sc n = true) : (s.drop j).sc n = true := by
  unfold St.sc St.drop at *
  rw [List.all_eq_true] at *
  intro b hb
  rcases List.mem_or_eq_of_mem_set hb with hb | rfl
  · exact h b hb
  · rfl
theorem Dst.st_sc {s : St} (d : Dst) {n : Nat} (h : s.sc n = true) : (d.st s).sc n = true := by
  cases d <;> simp only [Dst.st]
  · exact h
  · exact drop_sc' h
  · exact drop_sc' h
theorem Sat.dst {ρ : Env} {β : Bt} {s : St} {w : World} (h : Sat ρ β s w) (d : Dst) : Sat ρ β (d.st s) w := by
  cases d <;> simp only [Dst.st]
  · exact h
  · exact h.drop _
  · exact h.drop _
theorem Ext.dst (s : St) (d : Dst) (β : Bt) (w : World) : Ext s (d.st s) β β w w := by
  cases d <;> simp only [Dst.st]
  · exact Ext.refl _ _ _
  · exact Ext.drop _ _ _ _
  · exact Ext.drop _ _ _ _
theorem sc_bl {s s1 : St} (e : s1.bl = s.bl) {n : Nat} (h : s.sc n = true) : s1.sc n = true := by unfold St.sc at *; rw [e]; exact h
theorem dstOf_bl {cx : Cx} {cks : List CK} {e : TypeId} {x : SV} {s s1 : St} (h : s1.bl = s.bl) : dstOf' cx cks e x s1 = dstOf' cx cks e x s := by
  unfold dstOf'; rw [h]

/-- a block more, nothing else -/
theorem Ext.pushed {ρ : Env} {β : Bt} {s : St} {w : World} {b : SBlk} {g q : Nat} (hg : b.occ q = true → ∃ i, live β s i ∧ (β i).1 = g) : Ext s (s.pushB b) β (bnew β s.bl.length g q) w w := by
  have hag : ∀ j, j < s.bl.length → bnew β s.bl.length g q j = β j := fun j hj => by unfold bnew; rw [if_neg (by omega)]
  refine ⟨hag, fun j hj hl => ?_, fun j hj hl => ?_, Nat.le_refl _, fun _ _ _ => rfl, by simp [St.pushB], rfl, rfl, rfl⟩
  · rcases live_pushB hl with hl | ⟨rfl, _⟩
    · exact live_ag (hag j hj) hl
    · omega
  · rcases live_pushB hl with hl | ⟨rfl, ho⟩
    · have := live_lt hl; omega
    · have e1 : bnew β s.bl.length g q s.bl.length = (g, q, .nilIface) := by simp [bnew]
      rw [e1] at ho ⊢
      exact .inr (hg ho)

section
variable {cx : Cx} {ρ : Env} (hρ : EnvOk cx ρ) {β : Bt} {s s' : St} {w : World}
include hρ

theorem appendT_ok {cks : List CK} {ats : Array TypeId} {ty : TypeId} {x y v : SV} (hs : Sat ρ β s w) (h : (appendT cx cks ats x y s).sel ρ = some (v, s')) :
    ∃ β' w', (Builtin.append_ ats ty #[x.den ρ β, y.den ρ β]).run cx.P w = .ok (v.den ρ β') w' ∧ Sat ρ β' s' w' ∧ Ext s s' β β' w w' := by
  unfold appendT at h
  split at h
  case h_2 => cases h
  rename_i t t' hats
  split at h
  case h_2 => cases h
  rename_i e hu
  split at h
  case h_2 => cases h
  rename_i i hi
  split at h
  case h_2 => cases h
  rename_i zv hz
  split at h
  case isFalse => cases h
  rename_i hc
  simp only [Bool.and_eq_true, decide_eq_true_eq, beq_iff_eq] at hc
  obtain ⟨⟨⟨⟨⟨htt, hsz⟩, hzs⟩, hby⟩, hsc⟩, hck⟩ := hc
  subst htt
  have hats' : ats = #[t, t] := by
    apply Array.ext'
    simpa using hats
  subst hats'
  split at h
  case h_2 => cases h
  rename_i src d hsrc hdst
  obtain ⟨s1, e1, hs1, h, hm0, a, c, hy, hya⟩ := srcOf_ok hρ hs (by omega) hsrc h
  obtain ⟨s2, e2, hs2, h1, h⟩ := obl_ok hs1 h
  obtain ⟨s3, e3, hs3, h2, h⟩ := obl_ok hs2 h
  cases h
  have e13 : s3.bl = s.bl := e3.trans (e2.trans e1)
  have hdst3 : dstOf' cx cks e x s3 = some d := by rw [dstOf_bl e13]; exact hdst
  have hx := dstOf_ok hρ hs3 hdst3
  have hsc3 : s3.sc s3.bl.length = true := sc_bl e13 (by rw [e13]; exact hsc)
  have g1 := leE_ne hρ h1
  have g2 := leE_ne hρ h2
  rw [addE_ev] at g2
  simp only [E.ev] at g1 g2
  have hN : ((addE d.n src.n).ev ρ).toNat = (d.n.ev ρ).toNat + (src.n.ev ρ).toNat := by rw [addE_ev, Int.toNat_add g1 hm0]
  generalize hNe : (d.n.ev ρ).toNat = N at *
  generalize hMe : (src.n.ev ρ).toNat = M at *
  have hNM : N + M ≤ 1000000 := by omega
  -- the new content
  have hcont : rowV cks ((src.put d.q d.n).ev ρ) (N + M) = rowV cks (d.q.ev ρ) N ++ tabL (fun i => elemV cks (src.at ρ i)) 0 M := by
    unfold rowV
    rw [tabL_append]
    congr 1
    · refine tabL_congr _ _ _ fun k hk => ?_
      simp only [Nat.zero_add]
      rw [Src.put_ev hρ src d.q d.n g1 k (by omega), hNe, if_pos hk]
    · refine tabL_congr _ _ _ fun k hk => ?_
      simp only [Nat.zero_add]
      have := Src.put_ev hρ src d.q d.n g1 (N + k) (by omega)
      rw [hNe, if_neg (by omega), Nat.add_sub_cancel_left] at this
      rw [← this]
  have hsz' : (sizeOf e).run cx.P w = .ok i.size w := run_sizeOf_of (by simp [szT, hi])
  have hext0 := ext_kn2 e13 β w
  have hstl := Dst.st_len s3 d
  have hval : ∀ g q : Nat, 0 < q → (SV.sl (.own s3.bl.length) cks.length (.c 0) (addE d.n src.n) none).den ρ (bnew β s3.bl.length g q) = .slice (some ⟨g, 0, none⟩) (N + M) (q - 1) := by
    intro g q hq
    simp only [SV.den, bnew, if_true, E.ev, hN]
    rw [if_neg (by omega)]
    simp
  have hval0 : (SV.sl (.own s3.bl.length) cks.length (.c 0) (addE d.n src.n) none).den ρ (bnew β s3.bl.length 0 0) = .slice none (N + M) 0 := by
    simp [SV.den, bnew, E.ev, hN]
  rcases Nat.eq_zero_or_pos M with rfl | hM
  · -- nothing is appended
    have hfc : (Builtin.firstCells i.size 0 (.slice a 0 c)).run cx.P w = .ok #[] w := by
      cases a <;> simp [Builtin.firstCells, loadCells, loadCellsFrom]
    rcases hx with ⟨hxv, hn0, hgone⟩ | ⟨j, b, cap, tl, hj, ho, hst, hxv, hheap, hlen, hmax⟩
    · rw [hNe] at hn0
      subst hn0
      refine ⟨bnew β s3.bl.length 0 0, w, ?_, ?_, ?_⟩
      · rw [hxv, hy, hval0]
        simp [Builtin.append_, run_und hu, hsz', Builtin.lenOf, hfc]
      · have := (hs3.dst d).pushB (b := .arr cks e (src.put d.q d.n) (addE d.n src.n)) (g := 0) (q := 0) (by rw [hstl]; exact Dst.st_sc d hsc3) rfl (.inl ⟨rfl, by rw [hN]⟩) (fun h => by simp [SBlk.occ] at h) (fun h => by simp [SBlk.occ] at h)
        rw [hstl] at this
        exact this
      · have := Ext.pushed (ρ := ρ) (β := β) (s := d.st s3) (w := w) (b := .arr cks e (src.put d.q d.n) (addE d.n src.n)) (g := 0) (q := 0) (fun h => by simp [SBlk.occ] at h)
        rw [hstl] at this
        exact hext0.trans ((Ext.dst s3 d β w).trans this)
    · rw [hNe] at hxv hheap hlen
      have hle : N ≤ cap := by
        have : N * cks.length ≤ cap * cks.length := by rw [← hlen, List.length_append, rowV_len]; omega
        exact Nat.le_of_mul_le_mul_right this (by omega)
      have hlive : live β s3 j := ⟨b, hj, ho⟩
      have hgok : blkOk ρ β (cap + 1) (.arr cks e (src.put d.q d.n) (addE d.n src.n)) (w.heap[(β j).1]?) := by
        refine .inr ⟨tl, by omega, ?_, ?_, by simpa using hmax⟩
        · rw [hN, hcont, hheap]; simp [tabL]
        · rw [hN, hcont]; simp only [tabL, List.append_nil]; simpa using hlen
      refine ⟨bnew β s3.bl.length (β j).1 (cap + 1), w, ?_, ?_, ?_⟩
      · rw [hxv, hy, hval _ _ (by omega)]
        simp [Builtin.append_, run_und hu, hsz', Builtin.lenOf, hfc, hle, storeCells]
      · rw [hst]
        have := (hs3.drop j).pushB (b := .arr cks e (src.put d.q d.n) (addE d.n src.n)) (g := (β j).1) (q := cap + 1) (by rw [St.drop_len]; exact drop_sc' hsc3) rfl hgok
          (fun _ k hk he => (live_drop.1 hk).2 (hs3.inj _ _ (live_drop.1 hk).1 hlive he)) (fun _ k a' i' x' ha' hi' => (hs3.ro k a' i' x' ha' hi').2 j hlive)
        rw [St.drop_len] at this
        exact this
      · rw [hst]
        have hag : ∀ k, k < s3.bl.length → bnew β s3.bl.length (β j).1 (cap + 1) k = β k := fun k hk => by unfold bnew; rw [if_neg (by omega)]
        refine hext0.trans ⟨hag, fun k hk hl => ?_, fun k hk hl => ?_, Nat.le_refl _, fun _ _ _ => rfl, by simp [St.pushB, St.drop], rfl, rfl, rfl⟩
        · rcases live_pushB hl with hl | ⟨rfl, _⟩
          · exact live_ag (hag k hk) (live_drop.1 hl).1
          · rw [St.drop_len] at hk; omega
        · rcases live_pushB hl with hl | ⟨rfl, _⟩
          · have := live_lt (live_drop.1 hl).1; omega
          · exact .inr ⟨j, hlive, by rw [St.drop_len]; simp [bnew]⟩
  · -- something is
    obtain ⟨a', rfl, hcell⟩ := hya (by omega)
    generalize hnews : tabL (fun i => elemV cks (src.at ρ i)) 0 M = news at *
    have hnl : news.length = M * i.size := by rw [← hnews, tabL_len (fun _ => elemV_len _ _), hck]
    have hone : ∀ u ∈ news, u.oneCell' = true := by
      intro u hu
      rw [← hnews] at hu
      have : ∀ (n i0 : Nat), u ∈ tabL (fun i => elemV cks (src.at ρ i)) i0 n → u.oneCell' = true := by
        intro n
        induction n with
        | zero => intro i0 h; simp [tabL] at h
        | succ n ih =>
          intro i0 h
          simp only [tabL, List.mem_append] at h
          rcases h with h | h
          · exact oneV_elemV _ _ u h
          · exact ih _ h
      exact this M 0 hu
    rcases hx with ⟨hxv, hn0, hgone⟩ | ⟨j, b, cap, tl, hj, ho, hst, hxv, hheap, hlen, hmax⟩
    · -- to nothing
      rw [hNe] at hn0
      subst hn0
      have hr := run_append_nil (P := cx.P) w t ty e i zv (cx.undOk _ _ hu) (cx.infOk _ _ hi) hz a' M c news hnl hcell hM (by omega) (by
        have := Nat.mul_le_mul (show M ≤ 1000000 by omega) hby; omega)
      have hge := grownCap_ge w M 0 e
      have hle := grownCap_le_maxLen w M 0 e (by unfold maxLen; omega)
      obtain ⟨l1, l2⟩ := (hs3.dst d).laid (b := .arr cks e (src.put d.q d.n) (addE d.n src.n)) (o := .cells (news.toArray ++ Builtin.zeroCells zv.cells (grownCap w M 0 e - M)) e) (q := grownCap w M 0 e + 1) (by rw [hstl]; exact Dst.st_sc d hsc3) rfl (by
        refine .inr ⟨(Builtin.zeroCells zv.cells (grownCap w M 0 e - M)).toList, by omega, ?_, ?_, by simpa using hle⟩
        · rw [hN, hcont, toArr]; simp [rowV, tabL]
        · rw [hN, hcont]
          simp only [rowV, tabL, List.nil_append, List.length_append, hnl, Array.length_toList, size_zeroCells, hzs, Nat.add_sub_cancel, hck, ← Nat.add_mul]
          congr 1; omega)
      rw [hstl] at l1 l2
      refine ⟨_, _, ?_, l1, hext0.trans ((Ext.dst s3 d β w).trans l2)⟩
      rw [hxv, hy, hval _ _ (by omega), hr]
      simp
    · rw [hNe] at hxv hheap hlen
      have hlive : live β s3 j := ⟨b, hj, ho⟩
      by_cases hroom : N + M ≤ cap
      · -- there is room
        have hfit : N * i.size + news.length ≤ (rowV cks (d.q.ev ρ) N ++ tl).toArray.size := by
          simp only [List.size_toArray, hlen, hnl, hck, ← Nat.add_mul]; exact Nat.mul_le_mul_right _ hroom
        have hr := run_append_room (P := cx.P) w t ty e i (cx.undOk _ _ hu) (cx.infOk _ _ hi) (β j).1 N cap (rowV cks (d.q.ev ρ) N ++ tl).toArray hheap a' M c news hnl hcell hone hroom hfit
        have hcur : (rowV cks (d.q.ev ρ) N ++ tl).take (N * i.size) ++ news ++ (rowV cks (d.q.ev ρ) N ++ tl).drop (N * i.size + news.length) = rowV cks ((src.put d.q d.n).ev ρ) (N + M) ++ tl.drop news.length := by
          have hrl : (rowV cks (d.q.ev ρ) N).length = N * i.size := by rw [rowV_len, hck]
          rw [hcont, List.take_append_of_le_length (by omega), List.take_of_length_le (by omega)]
          rw [List.drop_append, List.drop_of_length_le (by omega), hrl, List.nil_append]
          simp
        obtain ⟨t1, t2⟩ := hs3.turned (b' := .arr cks e (src.put d.q d.n) (addE d.n src.n)) (q := cap + 1) hj ho hheap hsc3 rfl (cur := (rowV cks ((src.put d.q d.n).ev ρ) (N + M) ++ tl.drop news.length).toArray) (by
          refine .inr ⟨tl.drop news.length, by omega, by rw [hN], ?_, by simpa using hmax⟩
          rw [hN]
          simp only [List.length_append, rowV_len, List.length_drop, Nat.add_sub_cancel, hck, hnl] at hlen ⊢
          have h5 : N * i.size + M * i.size ≤ cap * i.size := by rw [← Nat.add_mul]; exact Nat.mul_le_mul_right _ hroom
          rw [Nat.add_mul]
          omega)
        refine ⟨_, _, ?_, by rw [hst]; exact t1, by rw [hst]; exact hext0.trans t2⟩
        rw [hxv, hy, hval _ _ (by omega), hr, hcur]
        simp
      · -- it grows
        have hr := run_append_grow (P := cx.P) w t ty e i zv (cx.undOk _ _ hu) (cx.infOk _ _ hi) hz ⟨(β j).1, 0, none⟩ N cap (rowV cks (d.q.ev ρ) N) (by rw [rowV_len, hck]) (by
            intro k u hk
            rw [addr_add, Nat.zero_add]
            simp only [World.cell?, hheap, Option.isSome_none, Bool.false_eq_true, if_false, List.getElem?_toArray]
            rw [List.getElem?_append_left ((List.getElem?_eq_some_iff.1 hk).1)]
            exact hk) a' M c news hnl hcell
          (by omega) (by omega) (growslice_fits (by omega) (by have := Nat.mul_le_mul hNM hby; omega))
        have hge := grownCap_ge w (N + M) cap e
        have hle := grownCap_le_maxLen w (N + M) cap e (by unfold maxLen; omega)
        obtain ⟨l1, l2⟩ := (hs3.drop j).laid (b := .arr cks e (src.put d.q d.n) (addE d.n src.n)) (o := .cells ((rowV cks (d.q.ev ρ) N).toArray ++ news.toArray ++ Builtin.zeroCells zv.cells (grownCap w (N + M) cap e - (N + M))) e) (q := grownCap w (N + M) cap e + 1)
          (by rw [St.drop_len]; exact drop_sc' hsc3) rfl (by
          refine .inr ⟨(Builtin.zeroCells zv.cells (grownCap w (N + M) cap e - (N + M))).toList, by omega, ?_, ?_, by simpa using hle⟩
          · rw [hN, hcont, List.append_toArray, toArr]
          · rw [hN, hcont]
            simp only [List.length_append, rowV_len, hnl, Array.length_toList, size_zeroCells, hzs, Nat.add_sub_cancel, hck, ← Nat.add_mul]
            congr 1; omega)
        rw [St.drop_len] at l1 l2
        refine ⟨_, _, ?_, by rw [hst]; exact l1, by rw [hst]; exact hext0.trans ((Ext.drop s3 j β w).trans l2)⟩
        rw [hxv, hy, hval _ _ (by omega), hr]
        simp

end

end Go.Eng
end

/-! A symbolic executor, part Z: rows that are made, that are copied; letters of texts; equality of whatever may be held against each other. -/
section
set_option linter.unusedVariables false
set_option linter.unusedSimpArgs false
namespace Go.Eng

/-! ### rows of noughts -/

def zeroP : CK → SV → Bool
  | .int k, .int k' (.c n) => decide (k = k') && n == 0
  | .bool, .bool (.c n) => n == 0
  | .str, .lit (.string b) => b.size == 0
  | _, _ => false
def zeroPL : List CK → List SV → Bool
  | [], [] => true
  | k :: l, x :: m => zeroP k x && zeroPL l m
  | _, _ => false

theorem strOf_nil : strOf 0 = ⟨#[]⟩ := by
  have hl : slenZ 0 = 0 := by unfold slenZ strMax; rw [rdZ_nil]; simp
  unfold strOf
  rw [hl]; rfl
theorem zeroP_den {ρ : Env} {β : Bt} {k : CK} {x : SV} (h : zeroP k x = true) : x.den ρ β = ckV k 0 := by
  unfold zeroP at h
  split at h
  · simp at h; obtain ⟨rfl, rfl⟩ := h
    simp only [SV.den, ckV, E.ev]
    rename_i k
    cases k <;> rfl
  · simp at h; subst h; rfl
  · rename_i b
    simp at h
    simp only [SV.den, ckV, strOf_nil]
    obtain ⟨⟨l⟩⟩ := b
    have : l = [] := by
      have h2 : (ByteArray.mk ⟨l⟩).size = 0 := by rw [h]; rfl
      exact List.length_eq_zero_iff.1 h2
    subst this; rfl
  · cases h
theorem zeroPL_den {ρ : Env} {β : Bt} : ∀ {l : List CK} {m : List SV} (f : Nat), zeroPL l m = true → SV.denL ρ β m = elemF 0 f l
  | [], [], f, _ => rfl
  | k :: l, x :: m, f, h => by
    simp only [zeroPL, Bool.and_eq_true] at h
    simp only [SV.denL, elemF, rdZ_nil, zeroP_den h.1, zeroPL_den (f + 1) h.2]
  | [], _ :: _, _, h => by cases h
  | _ :: _, [], _, h => by cases h
theorem elemV_zero (cks : List CK) : elemV cks 0 = elemF 0 0 cks := by
  unfold elemV
  split
  · simp [elemF, rdZ_nil]
  · rfl

/-- a block more, in a world with just that more -/
theorem Sat.laidW {ρ : Env} {β : Bt} {s : St} {w w' : World} (hs : Sat ρ β s w) {b : SBlk} {o : Obj} {q : Nat} (hsc : s.sc s.bl.length = true) (hl : b.sc s.bl.length = true) (hg : blkOk ρ β q b (some o))
    (hw : w'.heap = w.heap.push o) (h1 : w'.os = w.os) (h2 : w'.tape = w.tape) (h3 : w'.output = w.output) :
    Sat ρ (bnew β s.bl.length w.heap.size q) (s.pushB b) w' ∧ Ext s (s.pushB b) β (bnew β s.bl.length w.heap.size q) w w' := by
  have hold : ∀ b, b < w.heap.size → w'.heap[b]? = w.heap[b]? := by
    intro b hb
    rw [hw, Array.getElem?_push, if_neg (by omega)]
  have hs2 : Sat ρ β s w' := hs.other (fun i hi => hold _ (hs.lt hi)) (fun k a i x ha hi => hold _ (hs.roLt ha hi))
  have hgg : w'.heap[w.heap.size]? = some o := by rw [hw]; simp
  have hag : ∀ j, j < s.bl.length → bnew β s.bl.length w.heap.size q j = β j := fun j hj => by unfold bnew; rw [if_neg (by omega)]
  refine ⟨hs2.pushB hsc hl (by rw [hgg]; exact hg) (fun _ i hi he => by have := hs.lt hi; omega) (fun _ k a i x ha hi he => by have := hs.roLt ha hi; omega), ?_⟩
  refine ⟨hag, fun j hj hl => ?_, fun j hj hl => ?_, by rw [hw]; simp, fun b hb _ => hold b hb, by simp [St.pushB], h1, h2, h3⟩
  · rcases live_pushB hl with hl | ⟨rfl, _⟩
    · exact live_ag (hag j hj) hl
    · omega
  · rcases live_pushB hl with hl | ⟨rfl, _⟩
    · have := live_lt hl; omega
    · exact .inl (by simp [bnew])

def makeT (cx : Cx) (cks : List CK) (t : TypeId) (l c : SV) (s : St) : R :=
  match cx.und t, l, c with
  | some (.slice e), .int _ n, .int _ n' => (match cx.inf e with
    | some i => (match i.zero with
      | some zv => (match (toS zv).cells with
        | some zs =>
          if n.beq n' && zeroPL cks zs && (cks.length == i.size) && decide (0 < i.size) && decide (i.bytes ≤ 1000000) && s.sc s.bl.length then
            obl s (leE cx (.c 0) n) fun s => obl s (leE cx n (.c 1000000)) fun s => ret (s.pushB (.arr cks e (.c 0) n)) (.sl (.own s.bl.length) cks.length (.c 0) n (some n))
          else .bad 260
        | none => .bad 261)
      | none => .bad 262)
    | none => .bad 263)
  | _, _, _ => .bad 264

section
variable {cx : Cx} {ρ : Env} (hρ : EnvOk cx ρ) {β : Bt} {s s' : St} {w : World}
include hρ

theorem makeT_ok {cks : List CK} {t : TypeId} {l c v : SV} (hs : Sat ρ β s w) (h : (makeT cx cks t l c s).sel ρ = some (v, s')) :
    ∃ β' w', (Instr.makeSlice t (l.den ρ β) (c.den ρ β)).run cx.P w = .ok (v.den ρ β') w' ∧ Sat ρ β' s' w' ∧ Ext s s' β β' w w' := by
  unfold makeT at h
  split at h
  case h_2 => cases h
  rename_i e kl n kc n' hu
  split at h
  case h_2 => cases h
  rename_i i hi
  split at h
  case h_2 => cases h
  rename_i zv hz
  split at h
  case h_2 => cases h
  rename_i zs hzs
  split at h
  case isFalse => cases h
  rename_i hc
  simp only [Bool.and_eq_true, decide_eq_true_eq, beq_iff_eq] at hc
  obtain ⟨⟨⟨⟨⟨hn, hzp⟩, hck⟩, hsz⟩, hby⟩, hsc⟩ := hc
  have hn := E.eq_of_beq hn
  subst hn
  obtain ⟨s1, e1, hs1, h1, hA⟩ := obl_ok hs h
  obtain ⟨s2, e2, hs2, h2, hB⟩ := obl_ok hs1 hA
  cases hB
  have g1 := leE_ne hρ h1
  have g2 := leE_ne hρ h2
  simp only [E.ev] at g1 g2
  have e12 : s2.bl = s.bl := e2.trans e1
  have hr := run_make (P := cx.P) w t e i zv (cx.undOk _ _ hu) (cx.infOk _ _ hi) hz kl kc (n.ev ρ) (n.ev ρ) g1 (Int.le_refl _) (by
    have : (i.bytes : Int) * n.ev ρ ≤ 1000000 * 1000000 := Int.mul_le_mul (by omega) g2 g1 (by omega)
    omega) (by omega)
  have hzc : zv.cells = (elemV cks 0).toArray := by
    have := (SV.cells_den hρ β hzs).1
    rw [toS_den] at this
    rw [this, zeroPL_den 0 hzp, elemV_zero]
  have hcells : madeCells zv.cells ((n.ev ρ).toNat * i.size) = (rowV cks 0 (n.ev ρ).toNat ++ []).toArray := by
    rw [List.append_nil]
    apply Array.ext'
    apply List.ext_getElem?
    intro r
    have hlen : (rowV cks 0 (n.ev ρ).toNat).length = (n.ev ρ).toNat * i.size := by rw [rowV_len, hck]
    by_cases hr : r < (n.ev ρ).toNat * i.size
    · have hk1 : r / i.size < (n.ev ρ).toNat := Nat.div_lt_of_lt_mul (by rw [Nat.mul_comm]; exact hr)
      have hr1 : r % i.size < i.size := Nat.mod_lt _ hsz
      have hii : r = r / i.size * cks.length + r % i.size := by rw [hck, Nat.mul_comm]; exact (Nat.div_add_mod _ _).symm
      have hrow := rowV_get cks 0 (n := (n.ev ρ).toNat) (k := r / i.size) (r := r % i.size) hk1 (by omega)
      rw [← hii, rdZ_nil] at hrow
      show _ = (rowV cks 0 (n.ev ρ).toNat)[r]?
      rw [hrow]
      have hsz2 : zv.cells.size = i.size := by rw [hzc]; simp [elemV_len, hck]
      simp only [madeCells, Array.toList_map, Array.toList_range, List.getElem?_map, List.getElem?_range hr, Option.map_some, hsz2]
      rw [hzc]
      have hlt : r % i.size < (elemV cks 0).length := by rw [elemV_len, hck]; exact hr1
      rw [List.getElem?_eq_getElem hlt]
      simp [hlt]
    · have h1 : (madeCells zv.cells ((n.ev ρ).toNat * i.size)).toList.length ≤ r := by simp [size_madeCells]; omega
      rw [List.getElem?_eq_none h1]
      show none = (rowV cks 0 (n.ev ρ).toNat)[r]?
      rw [List.getElem?_eq_none (by rw [hlen]; omega)]
  obtain ⟨l1, l2⟩ := hs2.laidW (w' := w.alloc (.cells (madeCells zv.cells ((n.ev ρ).toNat * i.size)) e)) (b := .arr cks e (.c 0) n) (q := (n.ev ρ).toNat + 1) (sc_bl e12 (by rw [e12]; exact hsc)) rfl (by
    refine .inr ⟨[], by omega, by rw [hcells]; rfl, by simp [rowV_len], ?_⟩
    unfold maxLen; omega) rfl rfl rfl rfl
  refine ⟨_, _, ?_, l1, (ext_kn2 e12 β w).trans l2⟩
  simp only [SV.den, hr, bnew, if_true, E.ev]
  rw [if_neg (by omega)]
  simp

end

/-! ### copies -/

/-- the same row under another number -/
theorem Sat.recode {ρ : Env} {β : Bt} {s : St} {w : World} (hs : Sat ρ β s w) {j : Nat} {cks : List CK} {e : TypeId} {q n q' : E} (hj : s.bl[j]? = some (.arr cks e q n))
    (h : rowV cks (q'.ev ρ) (n.ev ρ).toNat = rowV cks (q.ev ρ) (n.ev ρ).toNat) : Sat ρ β { s with bl := s.bl.set j (.arr cks e q' n) } w ∧ Ext s { s with bl := s.bl.set j (.arr cks e q' n) } β β w w := by
  have hls : ∀ i, live β { s with bl := s.bl.set j (.arr cks e q' n) } i ↔ live β s i := live_set hj rfl
  have hx : Ext s { s with bl := s.bl.set j (.arr cks e q' n) } β β w w :=
    ⟨fun _ _ => rfl, fun i _ hl => (hls i).1 hl, fun i hi hl => absurd (live_lt ((hls i).1 hl)) (by omega), Nat.le_refl _, fun _ _ _ => rfl, by simp, rfl, rfl, rfl⟩
  refine hs.mk' hx ?_ (fun a b ha hb => hs.inj a b ((hls a).1 ha) ((hls b).1 hb)) hs.kn
  intro i b hi
  by_cases hij : j = i
  · subst hij
    have hlt := (List.getElem?_eq_some_iff.1 hj).1
    simp [hlt] at hi
    subst hi
    have := hs.blk j _ hj
    simp only [blkOk] at this ⊢
    rw [h]; exact this
  · rw [List.getElem?_set_ne hij] at hi
    exact hs.blk i b hi

/-- what a row holds behind a copy to its beginning -/
def copyQ (m n q d soff : E) : E := if m.beq n then dropE d soff else .f 16 (dropE d soff) m (dropE q m)
def copyM (cx : Cx) (slen len : E) : E := if slen.beq len then len else E.b' cx .min .i64 slen len

def copyT (cx : Cx) (ats : Array TypeId) (x y : SV) (s : St) : R :=
  match ats.toList, x, y with
  | [t, _], .sl (.own j) z off len _, .sl b z' soff slen _ =>
    (match cx.und t, s.bl[j]?, rowOf cx s b with
    | some (.slice el), some (.arr cks e q n), some (cks', d, sn) =>
      if szT cx el = some 1 && isZero off && decide (cks' = cks) && (cks.length == 1) && lo0 (soff.iv cx) && z == 1 && z' == 1 then
        obl s (leE cx (.c 0) len) fun s => obl s (leE cx (.c 0) slen) fun s => obl s (leE cx len n) fun s => obl s (leE cx (addE soff slen) sn) fun s =>
          .leaf (.int .i64 (copyM cx slen len), { s with bl := s.bl.set j (.arr cks e (copyQ (copyM cx slen len) n q d soff) n) })
      else .bad 270
    | _, _, _ => .bad 271)
  | _, _, _ => .bad 272

section
variable {cx : Cx} {ρ : Env} (hρ : EnvOk cx ρ) {β : Bt} {s s' : St} {w : World}
include hρ

theorem copyT_ok {ats : Array TypeId} {ty : TypeId} {x y v : SV} (hs : Sat ρ β s w) (h : (copyT cx ats x y s).sel ρ = some (v, s')) :
    ∃ w', (Builtin.copy_ ats ty #[x.den ρ β, y.den ρ β]).run cx.P w = .ok (v.den ρ β) w' ∧ Sat ρ β s' w' ∧ Ext s s' β β w w' := by
  unfold copyT at h
  split at h
  case h_2 => cases h
  rename_i t t' j z off len cap b z' soff slen scap hats
  split at h
  case h_2 => cases h
  rename_i el cks e q n cks' d sn hu hj hrow
  split at h
  case isFalse => cases h
  rename_i hc
  simp only [Bool.and_eq_true, decide_eq_true_eq, beq_iff_eq] at hc
  obtain ⟨⟨⟨⟨⟨⟨hsz, hoff⟩, rfl⟩, hck⟩, hsoff⟩, rfl⟩, rfl⟩ := hc
  have hoff := isZero_ok hoff
  subst hoff
  obtain ⟨s1, e1, hs1, h1, hA⟩ := obl_ok hs h
  obtain ⟨s2, e2, hs2, h2, hB⟩ := obl_ok hs1 hA
  obtain ⟨s3, e3, hs3, h3, hC⟩ := obl_ok hs2 hB
  obtain ⟨s4, e4, hs4, h4, hD⟩ := obl_ok hs3 hC
  clear h hA hB hC
  have g1 := leE_ne hρ h1
  have g2 := leE_ne hρ h2
  have g3 := leE_ne hρ h3
  have g4 := leE_ne hρ h4
  have g0 := lo0_ok hsoff (E.iv_ok hρ soff)
  rw [addE_ev] at g4
  simp only [E.ev] at g1 g2
  have e14 : s4.bl = s.bl := e4.trans (e3.trans (e2.trans e1))
  have hats' : ats = #[t, t'] := by apply Array.ext'; simpa using hats
  subst hats'
  have hm : (copyM cx slen len).ev ρ = if slen.ev ρ < len.ev ρ then slen.ev ρ else len.ev ρ := by
    unfold copyM
    split
    · rename_i hb; have := E.eq_of_beq hb; subst this; simp
    · rw [E.b'_ev hρ]; simp only [BO.ev]; split <;> split <;> omega
  generalize copyM cx slen len = m at hm hD
  generalize hq' : copyQ m n q d soff = q' at hD
  simp only [T.sel, Option.some.injEq, Prod.mk.injEq] at hD
  obtain ⟨rfl, rfl⟩ := hD
  have hm0 : 0 ≤ m.ev ρ := by rw [hm]; split <;> omega
  have hmM : (m.ev ρ).toNat = Nat.min (slen.ev ρ).toNat (len.ev ρ).toNat := by
    rw [hm]
    show _ = min _ _
    split <;> omega
  have hmn : (m.ev ρ).toNat ≤ (n.ev ρ).toNat := by rw [hm]; split <;> omega
  -- the new content
  have hrd : ∀ i : Nat, i < (n.ev ρ).toNat → rdZ (q'.ev ρ) i = if i < (m.ev ρ).toNat then rdZ (d.ev ρ) (((soff.ev ρ).toNat + i : Nat) : Int) else rdZ (q.ev ρ) i := by
    intro i hi
    rw [← hq']
    unfold copyQ
    split
    · rename_i hb
      have := E.eq_of_beq hb
      rw [dropE_ev hρ, if_pos (by rw [this]; exact hi)]
    · have : ((E.f 16 (dropE d soff) m (dropE q m)).ev ρ) = appZ ((dropE d soff).ev ρ) (m.ev ρ) ((dropE q m).ev ρ) := by
        simp only [E.ev, rho_f hρ (n := 16) (by omega) (by omega)]; rfl
      rw [this, rdZ_app, Int.toNat_natCast]
      split
      · rw [dropE_ev hρ]
      · rw [dropE_ev hρ]; congr 2; omega
  have hj4 : s4.bl[j]? = some (.arr cks' e q n) := by rw [e14]; exact hj
  have hsz1 : (cx.P.info? el).map (·.size) = some 1 := by
    obtain ⟨i, hi0, hi1⟩ := szT_info hsz
    rw [cx.infOk _ _ hi0]; simp [hi1]
  have hgo : ∀ k : Nat, goInt k = .int .i64 (k : Int) := fun k => rfl
  rcases Nat.eq_zero_or_pos (m.ev ρ).toNat with hM | hM
  · have hrow0 : rowV cks' (q'.ev ρ) (n.ev ρ).toNat = rowV cks' (q.ev ρ) (n.ev ρ).toNat := by
      unfold rowV
      refine tabL_congr _ _ _ fun k hk => ?_
      simp only [Nat.zero_add]
      rw [hrd k hk, if_neg (by omega)]
    obtain ⟨r1, r2⟩ := hs4.recode hj4 hrow0
    refine ⟨w, ?_, r1, (ext_kn2 e14 β w).trans r2⟩
    rw [sl_den, sl_den, run_copy_none (P := cx.P) w t t' ty el _ _ _ _ _ _ (cx.undOk _ _ hu) hsz1 (by rw [← hmM]; exact hM)]
    simp only [SV.den]
    rw [show m.ev ρ = 0 by omega]; rfl
  · rcases hs4.blk j _ hj4 with ⟨h0, hn0⟩ | ⟨tl, hq, hheap, hlen, hmax⟩
    · omega
    · obtain ⟨a, ha, _⟩ := row_cell hρ hs hrow (i := (soff.ev ρ).toNat) (by
        have hsl : 0 < slen.ev ρ := by
          rw [hm] at hM
          split at hM <;> omega
        omega)
      have hfirst : ∀ (c : Int), rowV cks' c (m.ev ρ).toNat = tabL (fun i => elemV cks' (rdZ c i)) 0 (m.ev ρ).toNat := fun c => rfl
      have hcsl : (tabL (fun i => elemV cks' (rdZ (q'.ev ρ) i)) 0 (m.ev ρ).toNat).length = (m.ev ρ).toNat := by rw [tabL_len (fun _ => elemV_len _ _), hck, Nat.mul_one]
      have hsrc : ∀ k u, (tabL (fun i => elemV cks' (rdZ (q'.ev ρ) i)) 0 (m.ev ρ).toNat)[k]? = some u → w.cell? ((a.add ((soff.ev ρ).toNat * 1)).add k) = some u := by
        intro k u hk
        have hkm : k < (m.ev ρ).toNat := by rw [← hcsl]; exact (List.getElem?_eq_some_iff.1 hk).1
        have hg := tabL_get (f := fun i => elemV cks' (rdZ (q'.ev ρ) i)) (z := 1) (fun _ => by rw [elemV_len, hck]) (m.ev ρ).toNat 0 k 0 hkm (by omega)
        simp only [Nat.mul_one, Nat.add_zero, Nat.zero_add] at hg
        rw [hg, hrd k (by omega), if_pos hkm] at hk
        obtain ⟨a2, ha2, hcell⟩ := row_cell hρ hs hrow (i := (soff.ev ρ).toNat + k) (by
          rw [hm] at hkm
          split at hkm <;> omega)
        rw [ha] at ha2
        cases ha2
        have := hcell 0 u hk
        rw [hck, Nat.mul_one, Nat.add_zero] at this
        rw [addr_add2, Nat.mul_one]
        exact this
      have hM' : (m.ev ρ).toNat = (m.ev ρ).toNat := rfl
      have hr := run_copy_row (P := cx.P) w t t' ty el (β j).1 0 (len.ev ρ).toNat (slCap ρ β (.own j) cap) (a.add ((soff.ev ρ).toNat * 1)) (slen.ev ρ).toNat (slCap ρ β b scap) _ e (tabL (fun i => elemV cks' (rdZ (q'.ev ρ) i)) 0 (m.ev ρ).toNat)
        (cx.undOk _ _ hu) hsz1 hheap (by rw [hcsl, hmM]) hsrc (by
          rw [hcsl]
          simp only [List.size_toArray, List.length_append, rowV_len, hck, Nat.mul_one]
          omega) (by
          intro u hu
          have : ∀ (n i0 : Nat), u ∈ tabL (fun i => elemV cks' (rdZ (q'.ev ρ) i)) i0 n → u.oneCell' = true := by
            intro n
            induction n with
            | zero => intro i0 h; simp [tabL] at h
            | succ n ih =>
              intro i0 h
              simp only [tabL, List.mem_append] at h
              rcases h with h | h
              · exact oneV_elemV _ _ u h
              · exact ih _ h
          exact this _ 0 hu)
      have hcur : (rowV cks' (q.ev ρ) (n.ev ρ).toNat ++ tl).take 0 ++ tabL (fun i => elemV cks' (rdZ (q'.ev ρ) i)) 0 (m.ev ρ).toNat ++ (rowV cks' (q.ev ρ) (n.ev ρ).toNat ++ tl).drop (0 + (tabL (fun i => elemV cks' (rdZ (q'.ev ρ) i)) 0 (m.ev ρ).toNat).length) = rowV cks' (q'.ev ρ) (n.ev ρ).toNat ++ tl := by
        rw [hcsl, List.take_zero, List.nil_append, Nat.zero_add, List.drop_append_of_le_length (by rw [rowV_len, hck, Nat.mul_one]; exact hmn), ← List.append_assoc]
        congr 1
        unfold rowV
        obtain ⟨d', hd'⟩ : ∃ d', (n.ev ρ).toNat = (m.ev ρ).toNat + d' := ⟨(n.ev ρ).toNat - (m.ev ρ).toNat, by omega⟩
        rw [hd', tabL_append, tabL_append]
        congr 1
        rw [List.drop_append, List.drop_of_length_le (by rw [tabL_len (fun _ => elemV_len _ _), hck, Nat.mul_one]; exact Nat.le_refl _), tabL_len (fun _ => elemV_len _ _), hck, Nat.mul_one, Nat.sub_self, List.drop_zero, List.nil_append]
        refine tabL_congr _ _ _ fun k hk => ?_
        show elemV cks' (rdZ (q.ev ρ) _) = elemV cks' (rdZ (q'.ev ρ) _)
        rw [hrd _ (by omega), if_neg (by omega)]
      obtain ⟨r1, r2⟩ := hs4.reset (b' := .arr cks' e q' n) (cur := (rowV cks' (q'.ev ρ) (n.ev ρ).toNat ++ tl).toArray) hj4 (by simp [SBlk.occ, hq]) (by simp [SBlk.occ, hq]) hheap
        (.inr ⟨tl, hq, rfl, by simpa [rowV_len] using hlen, hmax⟩)
      refine ⟨_, ?_, r1, (ext_kn2 e14 β w).trans r2⟩
      rw [sl_den, sl_den, ha]
      simp only [bsAddr, E.ev, Int.toNat_zero, Nat.zero_mul]
      rw [if_neg (by omega)]
      simp only [Option.map_some, addr_add, Nat.add_zero]
      rw [hr]
      have hcur' : (rowV cks' (q.ev ρ) (n.ev ρ).toNat ++ tl).toArray.toList = rowV cks' (q.ev ρ) (n.ev ρ).toNat ++ tl := rfl
      rw [hcur', hcur, hcsl]
      simp only [SV.den, goInt]
      rw [Int.toNat_of_nonneg hm0]

end

/-! ### letters of texts, parts of rows that are values -/

def indexT (cx : Cx) (t : TypeId) (x ix : SV) (s : St) : R :=
  match cx.und t, x, ix with
  | some .string, .str e, .int _ i => obl s (leE cx (.c 0) i) fun s => obl s (ltE cx i (.f 21 e (.c 0) (.c 0))) fun s => ret s (.int .u8 (.f 22 e i (.c 0)))
  | some (.array len el), .agg l, .int _ i =>
    (match constE i with
    | some _ => (match indexS cx t x ix with
      | some v => ret s v
      | none => .bad 280)
    | none => (match gather cx l with
      | some (k, q) => if szT cx el = some 1 && decide (isAggT cx el = some false) && l.length == len then
          obl s (leE cx (.c 0) i) fun s => obl s (ltE cx i (.c len)) fun s => ret s (ckS cx k (E.rdA q i)) else .bad 281
      | none => .bad 282))
  | _, _, _ => (match indexS cx t x ix with
    | some v => ret s v
    | none => .bad 283)

section
variable {cx : Cx} {ρ : Env} (hρ : EnvOk cx ρ) {β : Bt} {s s' : St} {w : World}
include hρ

theorem indexT_ok (hs : Sat ρ β s w) {t : TypeId} {X I v : SV} (h : (indexT cx t X I s).sel ρ = some (v, s')) : LookOk cx ρ β s s' w (Instr.index t (X.den ρ β) (I.den ρ β)) v := by
  unfold indexT at h
  split at h
  · rename_i e k i hu
    obtain ⟨s1, e1, hs1, h1, hA⟩ := obl_ok hs h
    obtain ⟨s2, e2, hs2, h2, hB⟩ := obl_ok hs1 hA
    cases hB
    have g1 := leE_ne hρ h1
    have g2 := ltE_ne hρ h2
    simp only [E.ev, rho_f hρ (n := 21) (by omega) (by omega), fL] at g1 g2
    refine ⟨?_, e2.trans e1, hs2⟩
    have hsz := strOf_size (e.ev ρ)
    have hget := strOf_get (e.ev ρ) (i.ev ρ).toNat (by omega)
    have hget2 : (strOf (e.ev ρ))[(i.ev ρ).toNat]? = some (UInt8.ofNat (sbyteZ (e.ev ρ) (i.ev ρ).toNat).toNat) := by
      have hlt : (i.ev ρ).toNat < (strOf (e.ev ρ)).size := by omega
      rw [← hget, getElem?_pos (strOf (e.ev ρ)) (i.ev ρ).toNat hlt, getElem?_pos (strOf (e.ev ρ)).data (i.ev ρ).toNat hlt]
      rfl
    have hb := sbyteZ_bd (e.ev ρ) (i.ev ρ)
    have hrd : sbyteZ (e.ev ρ) ((i.ev ρ).toNat : Nat) = sbyteZ (e.ev ρ) (i.ev ρ) := by unfold sbyteZ; rw [rdZ_toNat]
    simp only [SV.den, Instr.index, asIntOf, Sem.run_bind, Sem.run_pure, Result.andThen_ok, run_und hu, g1, if_true, hget2, hrd, E.ev, rho_f hρ (n := 22) (by omega) (by omega), fL]
    congr 2
    have : (UInt8.ofNat (sbyteZ (e.ev ρ) (i.ev ρ)).toNat).toNat = (sbyteZ (e.ev ρ) (i.ev ρ)).toNat % 256 := by simp
    rw [this]
    omega
  · rename_i len el l k i hu
    split at h
    · split at h
      · rename_i r hr; cases h; exact ⟨indexS_ok hr, rfl, hs⟩
      · cases h
    · split at h
      · rename_i ck q hg
        split at h
        · rename_i hc
          simp only [Bool.and_eq_true, decide_eq_true_eq, beq_iff_eq] at hc
          obtain ⟨⟨hz, ha⟩, hl⟩ := hc
          obtain ⟨s1, e1, hs1, h1, hA⟩ := obl_ok hs h
          obtain ⟨s2, e2, hs2, h2, hB⟩ := obl_ok hs1 hA
          cases hB
          have g1 := leE_ne hρ h1
          have g2 := ltE_ne hρ h2
          simp only [E.ev] at g1 g2
          refine ⟨?_, e2.trans e1, hs2⟩
          have hi : (i.ev ρ).toNat < l.length := by omega
          have hgv := gather_ok hρ β hg _ hi
          simp only [SV.den, Instr.index, asIntOf, Sem.run_bind, Sem.run_pure, Result.andThen_ok, run_und hu]
          rw [if_pos ⟨g1, g2⟩]
          simp only [Sem.run_bind, run_sizeOf_of hz, Result.andThen_ok, Nat.mul_one]
          rw [rdZ_toNat] at hgv
          rw [run_part_int ha (by simpa using hgv), ckS_den hρ, E.rdA_ev hρ]
        · cases h
      · cases h
  · split at h
    · rename_i r hr; cases h; exact ⟨indexS_ok hr, rfl, hs⟩
    · cases h

end

/-! ### two things held against each other -/

theorem nt_ne (r : E) (ρ : Env) : ((E.nt' r).ev ρ != 0) = !(r.ev ρ != 0) := by
  rw [E.nt'_ev, bool01_ne]; simp [bne]

def binT (cx : Cx) (op : BinOp) (xt : TypeId) (x y : SV) (s : St) : R :=
  match op, x, y with
  | .eql, .agg l, .agg m => (match cx.und xt with
    | some (.struct _) => (match cx.seq xt, eqS cx 8 xt (.agg l) (.agg m) with
      | true, some r => ret s (.bool r)
      | _, _ => .bad 290)
    | _ => binS cx op xt x y s)
  | .neq, .agg l, .agg m => (match cx.und xt with
    | some (.struct _) => (match cx.seq xt, eqS cx 8 xt (.agg l) (.agg m) with
      | true, some r => ret s (.bool (E.nt' r))
      | _, _ => .bad 290)
    | _ => binS cx op xt x y s)
  | op, x, y => (match cx.und xt, op with
    | some .string, .eql => (match eqS cx 1 xt x y with
      | some r => ret s (.bool r)
      | none => .bad 291)
    | some .string, .neq => (match eqS cx 1 xt x y with
      | some r => ret s (.bool (E.nt' r))
      | none => .bad 291)
    | _, _ => binS cx op xt x y s)

section
variable {cx : Cx} {ρ : Env} (hρ : EnvOk cx ρ) {β : Bt} {s s' : St} {w : World}
include hρ

theorem eqlT_ok {d : Nat} (hd : d ≤ 10000) {xt : TypeId} {x y : Operand} {X Y : SV} {r : E} (h : eqS cx d xt X Y = some r) (hg : ∀ op, (eqGuard op xt x y (X.den ρ β) (Y.den ρ β)).run cx.P w = .ok () w)
    (hb : binOp .eql xt (X.den ρ β) (Y.den ρ β) = (do let z ← Op.equal xt (X.den ρ β) (Y.den ρ β); pure (Value.bool z)) ∧ binOp .neq xt (X.den ρ β) (Y.den ρ β) = (do let z ← Op.equal xt (X.den ρ β) (Y.den ρ β); pure (Value.bool !z))) :
    BinOk cx .eql xt x y X Y ρ β w (.bool r) ∧ BinOk cx .neq xt x y X Y ρ β w (.bool (E.nt' r)) := by
  have he := eqS_ok hρ β d xt X Y r 10000 w h hd
  have he' : (Op.equal xt (X.den ρ β) (Y.den ρ β)).run cx.P w = .ok (r.ev ρ != 0) w := he
  constructor <;> unfold BinOk <;> simp only [Sem.run_bind, hg, Result.andThen_ok]
  · rw [hb.1]
    simp only [Sem.run_bind, he', Result.andThen_ok, Sem.run_pure, SV.den]
  · rw [hb.2]
    simp only [Sem.run_bind, he', Result.andThen_ok, Sem.run_pure, SV.den, nt_ne]

theorem binT_ok {op : BinOp} {xt : TypeId} {x y : Operand} {X Y v : SV} (hs : Sat ρ β s w) (h : (binT cx op xt X Y s).sel ρ = some (v, s')) : BinOk cx op xt x y X Y ρ β w v ∧ s'.bl = s.bl ∧ Sat ρ β s' w := by
  have aggs : ∀ {l m : List SV} {fs : Array Field} {r : E}, cx.und xt = some (.struct fs) → cx.seq xt = true → eqS cx 8 xt (.agg l) (.agg m) = some r →
      BinOk cx .eql xt x y (.agg l) (.agg m) ρ β w (.bool r) ∧ BinOk cx .neq xt x y (.agg l) (.agg m) ρ β w (.bool (E.nt' r)) := by
    intro l m fs r hu hq hr
    refine eqlT_ok hρ (by omega) hr (fun op => ?_) ⟨?_, ?_⟩
    · simp only [SV.den]; exact run_eqGuard_agg w op xt x y _ _ (cx.seqOk xt hq).1
    · rfl
    · rfl
  have strs : ∀ {r : E}, cx.und xt = some .string → eqS cx 1 xt X Y = some r → ∃ a b, X.den ρ β = .string a ∧ Y.den ρ β = .string b := by
    intro r hu hr
    simp only [eqS, hu] at hr
    split at hr
    · exact ⟨_, _, rfl, rfl⟩
    · split at hr
      · rename_i a b ha hb
        exact ⟨_, _, strE_den hρ β ha, strE_den hρ β hb⟩
      · cases hr
  have hstr : ∀ {r : E}, cx.und xt = some .string → eqS cx 1 xt X Y = some r → BinOk cx .eql xt x y X Y ρ β w (.bool r) ∧ BinOk cx .neq xt x y X Y ρ β w (.bool (E.nt' r)) := by
    intro r hu hr
    obtain ⟨a, b, ha, hb⟩ := strs hu hr
    have he := eqS_ok hρ β 1 xt X Y r 10000 w hr (by omega)
    rw [ha, hb, run_equalIn_string w 9999 xt _ _ (cx.undOk _ _ hu)] at he
    simp only [Result.ok.injEq, and_true] at he
    constructor <;> unfold BinOk <;> rw [ha, hb]
    · simp [eqGuard, binOp, Op.stringOp, SV.den, he]
    · have hh : (a.toList == b.toList) = (!(E.ev ρ r == 0)) := he
      simp only [eqGuard, binOp, Op.stringOp, SV.den, E.nt'_ev, bool01_ne, hh]
      simp
  unfold binT at h
  split at h
  · split at h
    · rename_i fs hu
      split at h
      · rename_i r hq hr
        cases h
        exact ⟨(aggs hu hq hr).1, rfl, hs⟩
      · cases h
    · exact binS_ok hρ hs h
  · split at h
    · rename_i fs hu
      split at h
      · rename_i r hq hr
        cases h
        exact ⟨(aggs hu hq hr).2, rfl, hs⟩
      · cases h
    · exact binS_ok hρ hs h
  · split at h
    · rename_i hu _
      split at h
      · rename_i r hr
        cases h
        exact ⟨(hstr (by assumption) hr).1, rfl, hs⟩
      · cases h
    · split at h
      · rename_i r hr
        cases h
        exact ⟨(hstr (by assumption) hr).2, rfl, hs⟩
      · cases h
    · exact binS_ok hρ hs h

end

end Go.Eng
end

/-! A symbolic executor, part G: one operation of whatever kind; calls; regions in the text's order. -/
section
set_option linter.unusedVariables false
set_option linter.unusedSimpArgs false
namespace Go.Eng

def opt (s : St) : Option SV → R
  | some v => ret s v
  | none => .bad 20
def optM : Option (SV × St) → R
  | some r => .leaf r
  | none => .bad 21

/-- it may give memory new names -/
def chg : Op → Bool
  | .alloc _ | .box _ _ | .buildSlice _ _ _ | .call _ | .makeSlice _ _ _ => true
  | _ => false

/-- what a part of a row of this type is made of -/
def cksOf (cx : Cx) : Nat → TypeId → Option (List CK)
  | 0, _ => none
  | d + 1, t => match cx.und t with
    | some (.int k) => some [.int k]
    | some .bool => some [.bool]
    | some .string => some [.str]
    | some (.struct fs) => fs.toList.foldr (fun f acc => match acc, cksOf cx d f.type with
      | some l, some m => some (m ++ l)
      | _, _ => none) (some [])
    | some (.array n e) => match cksOf cx d e with
      | some m => some ((List.replicate n m).flatten)
      | none => none
    | _ => none
def elemCks (cx : Cx) (t : TypeId) : List CK := match cx.und t with
  | some (.slice e) => (cksOf cx 6 e).getD []
  | _ => []

def isRowV : SV → Bool
  | .sl _ _ _ _ _ => true
  | _ => false

/-- a place that is there -/
def nilT (cx : Cx) (x : SV) (s : St) : R :=
  match x with
  | .ep b z i f => (match rowOf cx s b with
    | some (_, _, n) => obl s (leE cx (.c 0) i) fun s => obl s (ltE cx i n) fun s => ret s (.ep b z i f)
    | none => .bad 292)
  | .cp j b z l i => ret s (.cp j b z l i)
  | x => (match nilS x with
    | some v => ret s v
    | none => .bad 293)
def faddrT (cx : Cx) (t : TypeId) (x : SV) (f : Nat) (s : St) : R :=
  match cx.und t, x with
  | some (.struct fs), .ep b z i f0 => (match fs[f]?, rowOf cx s b with
    | some fl, some (_, _, n) => (match szT cx fl.type with
      | some (_ + 1) => obl s (leE cx (.c 0) i) fun s => obl s (ltE cx i n) fun s => ret s (.ep b z i (f0 + fl.offset))
      | _ => .bad 294)
    | _, _ => .bad 295)
  | _, _ => (match faddrS cx t x f with
    | some v => ret s v
    | none => .bad 296)

/-- it reckons a value, and leaves the world as it is -/
def valOp : Op → Bool
  | .move _ | .assign _ | .pick _ _ _ | .build _ _ | .load _ _ | .nilCheck _ | .binOp _ _ _ _ _ | .unOp _ _ _ | .convert _ _ _ | .makeInterface _ _ | .makeFunc _ _ _
  | .slice _ _ _ _ _ | .fieldAddr _ _ _ | .field _ _ _ | .indexAddr _ _ _ | .index _ _ _ | .extract _ _ => true
  | .call c => match c.callee with
    | .builtin .len => true
    | .builtin .min => true
    | .builtin .max => true
    | _ => false
  | _ => false

def opS (cx : Cx) (tm : List SV) (s : St) (o : Oper) : R :=
  match o.op with
  | .move x => ret s (evO tm x)
  | .assign x => ret s (evO tm x)
  | .pick c x y => match evO tm c with
    | .bool e => fork s e (fun s => ret s (evO tm x)) (fun s => ret s (evO tm y))
    | _ => .bad 22
  | .alloc el => match zeroS cx el with
    | some z => optM (boxS el z s)
    | none => .bad 23
  | .box el x => optM (boxS el (evO tm x) s)
  | .build t parts => opt s (buildS cx t (parts.toList.map fun p => (p.1, evO tm p.2)))
  | .buildSlice t len parts => optM (rowS cx t len (parts.toList.map fun p => (p.1, evO tm p.2)) s)
  | .load t x => loadT cx t (evO tm x) s
  | .store t x y => (storeT cx t (evO tm x) (evO tm y) s).bind fun s' => .leaf (undefS, s')
  | .nilCheck x => nilT cx (evO tm x) s
  | .makeSlice t l c => makeT cx (elemCks cx t) t (evO tm l) (evO tm c) s
  | .binOp op xt x y _ => binT cx op xt (evO tm x) (evO tm y) s
  | .unOp op _ x => opt s (unS cx op (evO tm x))
  | .convert src dst x => opt s (convS cx src dst (evO tm x))
  | .makeInterface t x => opt s (mkIfS cx t (evO tm x))
  | .makeFunc fn first cap => ret s (.func fn (first.toList.map (evO tm)) (cap.toList.map (evO tm)))
  | .slice t x lo hi mx => sliceT cx t (evO tm x) (lo.map (evO tm)) (hi.map (evO tm)) (mx.map (evO tm)) s
  | .fieldAddr t x f => faddrT cx t (evO tm x) f s
  | .field t x f => opt s (fieldS cx t (evO tm x) f)
  | .indexAddr t x i => iaddrT cx t (evO tm x) (evO tm i) s
  | .index t x i => indexT cx t (evO tm x) (evO tm i) s
  | .extract x i => opt s (extractS (evO tm x) i)
  | .call c => match c.callee with
    | .builtin .len => match c.args.toList with
      | x :: _ => lenT cx c.argTypes (evO tm x) s
      | _ => .bad 25
    | .builtin .min => match c.args.toList.map (evO tm) with
      | .int k e :: l => match mmS cx .min k e l with
        | some r => ret s (.int k r)
        | none => .bad 26
      | _ => .bad 26
    | .builtin .max => match c.args.toList.map (evO tm) with
      | .int k e :: l => match mmS cx .max k e l with
        | some r => ret s (.int k r)
        | none => .bad 26
      | _ => .bad 26
    | .builtin .append => match c.args.toList with
      | [x, y] => if isRowV (evO tm x) || isRowV (evO tm y) then appendT cx (elemCks cx (c.argTypes.getD 0 0)) c.argTypes (evO tm x) (evO tm y) s else optM (appendS cx c.argTypes (evO tm x) (evO tm y) s)
      | _ => .bad 27
    | .builtin .copy => match c.args.toList with
      | [x, y] => copyT cx c.argTypes (evO tm x) (evO tm y) s
      | _ => .bad 27
    | _ => .bad 28
  | _ => .bad 29

def OpGood (P : Program) (o : Oper) (a : Act) (w : World) (post : Value → World → Prop) : Prop :=
  ∀ (K : Act → World → Prop) (Q : Exit → Act → World → Prop), (∀ V w', post V w' → K (a.put o.dst V) w') → o.wp P a w K Q

theorem Res.good {P : Program} {o : Oper} {a : Act} {w w' : World} {V : Value} (h : Res P o a w V w') {post : Value → World → Prop} (hp : post V w') : OpGood P o a w post :=
  fun _ _ hk => h.wp (hk _ _ hp)

structure CxOk (cx : Cx) : Prop where
  mixed : cx.P.follows .mixedOrders = true
  nogo : ∀ (f : FuncId) fn, cx.P.funcs[f]? = some fn → (fn.name == "runtime.NumGoroutine") = false

section
variable {cx : Cx} {ρ : Env} {β : Bt} {s s' : St} {w : World} {tm : List SV} {a : Act} {o : Oper} {r : SV}

theorem sel_opt {x : Option SV} (h : (opt s x).sel ρ = some (r, s')) : x = some r ∧ s' = s := by
  cases x with
  | none => cases h
  | some v => cases h; exact ⟨rfl, rfl⟩
theorem sel_optM {x : Option (SV × St)} (h : (optM x).sel ρ = some (r, s')) : x = some (r, s') := by
  cases x with
  | none => cases h
  | some v => cases h; rfl

/-- what an operation comes to, when memory is as it was -/
def Same (cx : Cx) (ρ : Env) (β : Bt) (s s' : St) (w : World) (o : Oper) (a : Act) (r : SV) : Prop :=
  ∃ w', Res cx.P o a w (r.den ρ β) w' ∧ Sat ρ β s' w' ∧ Ext s s' β β w w'
def More (cx : Cx) (ρ : Env) (β : Bt) (s s' : St) (w : World) (o : Oper) (a : Act) (r : SV) : Prop :=
  ∃ β' w', Res cx.P o a w (r.den ρ β') w' ∧ Sat ρ β' s' w' ∧ Ext s s' β β' w w' ∧ (chg o.op = false → β' = β) ∧ (valOp o.op = true → (execOp a.eval o).run cx.P w = .ok (.value (r.den ρ β)) w)

theorem Same.more (hv : valOp o.op = false) (h : Same cx ρ β s s' w o a r) : More cx ρ β s s' w o a r :=
  let ⟨w', h1, h2, h3⟩ := h; ⟨β, w', h1, h2, h3, fun _ => rfl, fun h => Bool.noConfusion (h.symm.trans hv)⟩

theorem same_kn {s1 : St} (hs : Sat ρ β s1 w) (hx : Ext s s1 β β w w) (h : (execOp a.eval o).run cx.P w = .ok (.value (r.den ρ β)) w) : More cx ρ β s s1 w o a r :=
  ⟨β, w, .inl h, hs, hx, fun _ => rfl, fun _ => h⟩

theorem same_value (hs : Sat ρ β s w) (h : (execOp a.eval o).run cx.P w = .ok (.value (r.den ρ β)) w) : More cx ρ β s s w o a r :=
  same_kn hs (Ext.refl _ _ _) h

theorem ext_kn {s s1 : St} (e : s1.bl = s.bl) (β : Bt) (w : World) : Ext s s1 β β w w := by
  have hl : ∀ j, live β s1 j ↔ live β s j := fun j => by unfold live; rw [e]
  exact ⟨fun _ _ => rfl, fun j _ h => (hl j).1 h, fun j hj h => absurd (live_lt ((hl j).1 h)) (by omega), Nat.le_refl _, fun _ _ _ => rfl, by rw [e]; exact Nat.le_refl _, rfl, rfl, rfl⟩

theorem parts_map (tm : List SV) (ht : a.tmps = (SV.denL ρ β tm).toArray) (parts : Array (Nat × Operand)) :
    (parts.map fun (i, x) => (i, a.eval x)) = ((parts.toList.map fun p => (p.1, evO tm p.2)).map fun p => (p.1, p.2.den ρ β)).toArray := by
  apply Array.ext'
  simp [evO_den ht]

theorem ops_map (tm : List SV) (ht : a.tmps = (SV.denL ρ β tm).toArray) (xs : Array Operand) :
    xs.map a.eval = (SV.denL ρ β (xs.toList.map (evO tm))).toArray := by
  apply Array.ext'
  simp [denL_map, evO_den ht]

theorem opt_map (tm : List SV) (ht : a.tmps = (SV.denL ρ β tm).toArray) (x : Option Operand) : x.map a.eval = (x.map (evO tm)).map (SV.den ρ β) := by
  cases x <;> simp [evO_den ht]

theorem run_v {x : Sem Value} {V : Value} {w w' : World} {P : Program} (h : x.run P w = .ok V w') : (do pure (Next.value (← x)) : Sem Next).run P w = .ok (.value V) w' := by
  simp only [Sem.run_bind, h, Result.andThen_ok, Sem.run_pure]

/-- a pointer that is there, or whatever else is no nil -/
def sure (v : Value) : Prop := ∀ (P : Program) (ev : Operand → Value) (x : Operand) (o : Oper) (w : World), ev x = v → o.op = .nilCheck x → (execOp ev o).run P w = .ok (.value v) w

theorem nilT_ok (hρ : EnvOk cx ρ) (hs : Sat ρ β s w) {X : SV} (h : (nilT cx X s).sel ρ = some (r, s')) : sure (X.den ρ β) ∧ r.den ρ β = X.den ρ β ∧ s'.bl = s.bl ∧ Sat ρ β s' w := by
  unfold nilT at h
  split at h
  · rename_i b z i f
    split at h
    · rename_i cks q n hrow
      obtain ⟨s1, e1, hs1, h1, hA⟩ := obl_ok hs h
      obtain ⟨s2, e2, hs2, h2, hB⟩ := obl_ok hs1 hA
      cases hB
      have g1 := leE_ne hρ h1
      have g2 := ltE_ne hρ h2
      simp only [E.ev] at g1
      obtain ⟨a, ha, _⟩ := row_cell hρ hs hrow (i := (i.ev ρ).toNat) (by omega)
      refine ⟨?_, rfl, e2.trans e1, hs2⟩
      rw [ep_den ρ β b z i f ha]
      intro P ev x o w he ho
      simp [execOp, ho, he]
    · cases h
  · cases h
    refine ⟨?_, rfl, rfl, hs⟩
    intro P ev x o w he ho
    simp [execOp, ho, he, SV.den]
  · split at h
    · rename_i v hv
      cases h
      unfold nilS at hv
      split at hv <;> cases hv <;> refine ⟨?_, rfl, rfl, hs⟩ <;> intro P ev x o w he ho
      · simp [execOp, ho, he, SV.den]
      · rename_i i _ _
        obtain ⟨ad, ha⟩ := hρ.hv i
        simp only [SV.den, ha] at he ⊢
        simp [execOp, ho, he]
      · simp [execOp, ho, he, SV.den]
      · simp [execOp, ho, he, SV.den]
    · cases h

theorem faddrT_ok (hρ : EnvOk cx ρ) (hs : Sat ρ β s w) {t : TypeId} {X : SV} {f : Nat} (h : (faddrT cx t X f s).sel ρ = some (r, s')) : LookOk cx ρ β s s' w (Instr.fieldAt t (X.den ρ β) f) r := by
  unfold faddrT at h
  split at h
  · rename_i fs b z i f0 hu
    split at h
    · rename_i fl cks q n hf hrow
      split at h
      · rename_i m hm
        obtain ⟨s1, e1, hs1, h1, hA⟩ := obl_ok hs h
        obtain ⟨s2, e2, hs2, h2, hB⟩ := obl_ok hs1 hA
        cases hB
        have g1 := leE_ne hρ h1
        have g2 := ltE_ne hρ h2
        simp only [E.ev] at g1
        obtain ⟨a, ha, _⟩ := row_cell hρ hs hrow (i := (i.ev ρ).toNat) (by omega)
        refine ⟨?_, e2.trans e1, hs2⟩
        rw [ep_den ρ β b z i f0 ha, ep_den ρ β b z i _ ha]
        simp [Instr.fieldAt, run_und hu, hf, Instr.sureAddr, fieldPlace, run_sizeOf_of hm, addr_add2, Nat.add_assoc]
      · cases h
    · cases h
  · split at h
    · rename_i v hv
      cases h
      exact ⟨faddrS_ok hv, rfl, hs⟩
    · cases h

theorem opS_ok (hρ : EnvOk cx ρ) (ht : a.tmps = (SV.denL ρ β tm).toArray) (hs : Sat ρ β s w) (h : (opS cx tm s o).sel ρ = some (r, s')) : More cx ρ β s s' w o a r := by
  obtain ⟨dst, op, ty, pos, aft, gd⟩ := o
  unfold opS at h
  cases op <;> simp only at h <;> try (cases h; done)
  case move x => cases h; exact same_value hs (by simp [execOp, evO_den ht])
  case assign x => cases h; exact same_value hs (by simp [execOp, evO_den ht])
  case pick c x y =>
    split at h
    · rename_i e he
      obtain ⟨s1, e1, hs1, ⟨hne, h⟩ | ⟨h0, h⟩⟩ := fork_ok hs h <;> cases h
      · refine same_kn hs1 (ext_kn e1 β w) ?_
        simp [execOp, evO_den ht c, he, SV.den, asBool, hne, evO_den ht]
      · refine same_kn hs1 (ext_kn e1 β w) ?_
        simp [execOp, evO_den ht c, he, SV.den, asBool, h0, evO_den ht]
    · cases h
  case alloc el =>
    split at h
    · rename_i z hz
      obtain ⟨β', w', h1, h2, h3, h4⟩ := boxS_ok hρ hs (sel_optM h)
      refine ⟨β', w', .inl ?_, h3, h4, fun h => (by cases h), fun h => (by cases h)⟩
      refine run_v ?_
      simp only [Instr.alloc, Sem.run_bind, zeroS_ok (ρ := ρ) (β := β) (w := w) hz, Result.andThen_ok, h1, h2, Sem.run_pure]
    · cases h
  case box el x =>
    obtain ⟨β', w', h1, h2, h3, h4⟩ := boxS_ok hρ hs (sel_optM h)
    refine ⟨β', w', .inl ?_, h3, h4, fun h => (by cases h), fun h => (by cases h)⟩
    refine run_v ?_
    simp only [evO_den ht, Instr.box, Sem.run_bind, h1, h2, Result.andThen_ok, Sem.run_pure]
  case build t parts =>
    obtain ⟨h', rfl⟩ := sel_opt h
    refine same_value hs (run_v ?_)
    rw [parts_map tm ht]
    exact buildS_ok hρ h'
  case buildSlice t len parts =>
    obtain ⟨β', w', h1, h2, h3⟩ := rowS_ok hρ hs (sel_optM h)
    refine ⟨β', w', .inl ?_, h2, h3, fun h => (by cases h), fun h => (by cases h)⟩
    refine run_v ?_
    rw [parts_map tm ht]
    exact h1
  case load t x =>
    obtain ⟨h1, h2, h3⟩ := loadT_ok hρ hs h
    exact same_kn h3 (ext_kn h2 β w) (run_v (by simp only [evO_den ht]; exact h1))
  case store t x y =>
    obtain ⟨s2, h2, h3⟩ := T.sel_bind_some h
    cases h3
    obtain ⟨w', h1, h2, h3⟩ := storeT_ok hρ hs h2
    exact Same.more rfl ⟨w', .inr ⟨by simp [execOp, evO_den ht, h1], rfl⟩, h2, h3⟩
  case makeSlice t l c =>
    obtain ⟨β', w', h1, h2, h3⟩ := makeT_ok hρ hs h
    exact ⟨β', w', .inl (run_v (by simp only [evO_den ht]; exact h1)), h2, h3, fun h => (by cases h), fun h => (by cases h)⟩
  case nilCheck x =>
    obtain ⟨h1, h0, h2, h3⟩ := nilT_ok hρ hs h
    refine same_kn h3 (ext_kn h2 β w) ?_
    rw [h0]
    exact h1 cx.P a.eval x _ w (evO_den ht x) rfl
  case binOp bop xt x y yt =>
    obtain ⟨h1, h2, h3⟩ := binT_ok (x := x) (y := y) hρ hs h
    refine same_kn h3 (ext_kn h2 β w) ?_
    unfold BinOk at h1
    refine run_v ?_
    simp only [evO_den ht]
    exact h1
  case unOp uop xt x =>
    obtain ⟨h', rfl⟩ := sel_opt h
    exact same_value hs (run_v (by simp only [evO_den ht]; exact unS_ok hρ h'))
  case convert src dst x =>
    obtain ⟨h', rfl⟩ := sel_opt h
    exact same_value hs (run_v (by simp only [evO_den ht]; exact convS_ok hρ h'))
  case makeInterface t x =>
    obtain ⟨h', rfl⟩ := sel_opt h
    exact same_value hs (run_v (by simp only [evO_den ht]; exact mkIfS_ok h'))
  case makeFunc fn first cap =>
    cases h
    refine same_value hs (run_v ?_)
    simp only [Instr.makeFunc, ops_map tm ht]
    rfl
  case slice t x lo hi mx =>
    obtain ⟨h1, h2, h3⟩ := sliceT_ok hρ hs h
    refine same_kn h3 (ext_kn h2 β w) (run_v ?_)
    simp only [opt_map tm ht, evO_den ht x]
    exact h1
  case fieldAddr t x f =>
    obtain ⟨h1, h2, h3⟩ := faddrT_ok hρ hs h
    exact same_kn h3 (ext_kn h2 β w) (run_v (by simp only [evO_den ht]; exact h1))
  case field t x f =>
    obtain ⟨h', rfl⟩ := sel_opt h
    exact same_value hs (run_v (by simp only [evO_den ht]; exact fieldS_ok h'))
  case indexAddr t x i =>
    obtain ⟨h1, h2, h3⟩ := iaddrT_ok hρ hs h
    exact same_kn h3 (ext_kn h2 β w) (run_v (by simp only [evO_den ht]; exact h1))
  case index t x i =>
    obtain ⟨h1, h2, h3⟩ := indexT_ok hρ hs h
    exact same_kn h3 (ext_kn h2 β w) (run_v (by simp only [evO_den ht]; exact h1))
  case extract x i =>
    obtain ⟨h', rfl⟩ := sel_opt h
    exact same_value hs (run_v (by simp only [evO_den ht]; exact extractS_ok h'))
  case call c =>
    obtain ⟨callee, args, ats⟩ := c
    simp only at h
    split at h
    · split at h
      · rename_i x l hx
        have hx0 : (args.map a.eval)[0]? = some ((evO tm x).den ρ β) := by
          rw [← Array.getElem?_toList, Array.toList_map, hx]; simp [evO_den ht]
        obtain ⟨h1, h2, h3⟩ := lenT_ok (ty := ty) hρ hs hx0 h
        refine same_kn h3 (ext_kn h2 β w) ?_
        show ((do pure (Next.value (← Builtin.len_ ats ty (args.map a.eval)))) : Sem Next).run cx.P w = _
        exact run_v h1
      · cases h
    · split at h
      · rename_i k e l hx
        split at h
        · rename_i q hq
          cases h
          refine same_value hs ?_
          show ((do pure (Next.value (← Builtin.min_ ats ty (args.map a.eval)))) : Sem Next).run cx.P w = _
          have hl : (args.map a.eval).toList = SV.denL ρ β (.int k e :: l) := by rw [ops_map tm ht, hx]
          refine run_v ?_
          simp only [Builtin.min_, hl, SV.denL, SV.den]
          exact mmS_min hρ k l e q hq
        · cases h
      · cases h
    · split at h
      · rename_i k e l hx
        split at h
        · rename_i q hq
          cases h
          refine same_value hs ?_
          show ((do pure (Next.value (← Builtin.max_ ats ty (args.map a.eval)))) : Sem Next).run cx.P w = _
          have hl : (args.map a.eval).toList = SV.denL ρ β (.int k e :: l) := by rw [ops_map tm ht, hx]
          refine run_v ?_
          simp only [Builtin.max_, hl, SV.denL, SV.den]
          exact mmS_max hρ k l e q hq
        · cases h
      · cases h
    · split at h
      · rename_i x y hx
        have hargs : args.map a.eval = #[(evO tm x).den ρ β, (evO tm y).den ρ β] := by
          apply Array.ext'
          rw [Array.toList_map, hx]; simp [evO_den ht]
        have happ : ∃ β' w', (Builtin.append_ ats ty #[(evO tm x).den ρ β, (evO tm y).den ρ β]).run cx.P w = .ok (r.den ρ β') w' ∧ Sat ρ β' s' w' ∧ Ext s s' β β' w w' := by
          split at h
          · exact appendT_ok hρ hs h
          · exact appendS_ok (ty := ty) hρ hs (sel_optM h)
        obtain ⟨β', w', h1, h2, h3⟩ := happ
        refine ⟨β', w', .inl ?_, h2, h3, fun h => (by cases h), fun h => (by cases h)⟩
        show ((do pure (Next.value (← Builtin.append_ ats ty (args.map a.eval)))) : Sem Next).run cx.P w = _
        rw [hargs]
        exact run_v h1
      · cases h
    · split at h
      · rename_i x y hx
        have hargs : args.map a.eval = #[(evO tm x).den ρ β, (evO tm y).den ρ β] := by
          apply Array.ext'
          rw [Array.toList_map, hx]; simp [evO_den ht]
        obtain ⟨w', h1, h2, h3⟩ := copyT_ok (ty := ty) hρ hs h
        refine ⟨β, w', .inl ?_, h2, h3, fun h => (by cases h), fun h => (by cases h)⟩
        show ((do pure (Next.value (← Builtin.copy_ ats ty (args.map a.eval)))) : Sem Next).run cx.P w = _
        rw [hargs]
        exact run_v h1
      · cases h
    · cases h

end

/-! ### calls -/

abbrev CF := FuncId → List SV → St → R

def CallOk (cx : Cx) (cf : CF) : Prop :=
  ∀ (ρ : Env) (β : Bt) (s s' : St) (w : World) (f : FuncId) (args : List SV) (v : SV), EnvOk cx ρ → Sat ρ β s w → (cf f args s).sel ρ = some (v, s') →
    Calls cx.P f (SV.denL ρ β args).toArray w fun e w' => ∃ β', e = .returned (v.den ρ β') ∧ Sat ρ β' s' w' ∧ Ext s s' β β' w w'

/-- functions without a body, that reckon -/
abbrev XF := FuncId → List SV → Option SV
def XOk (cx : Cx) (ex : XF) : Prop :=
  ∀ (ρ : Env) (β : Bt) (w : World) (f : FuncId) (args : List SV) (v : SV), EnvOk cx ρ → ex f args = some v →
    (callFunc f (SV.denL ρ β args).toArray).run cx.P w = .ok (.value (v.den ρ β)) w

def hasBody (cx : Cx) (f : FuncId) : Bool := match cx.fn f with
  | some fn => fn.body.isSome
  | none => false

def methodS (cx : Cx) (t : TypeId) (x : SV) (name : String) : Option (FuncId × SV) :=
  match cx.inf t with
  | some i => match i.methods.find? (·.name == name) with
    | some m => if m.path.isEmpty then
        match m.func, cx.und t with
        | some (f, true), some (.pointer _) => some (f, x)
        | some (_, false), some (.pointer _) => none
        | some (f, false), some _ => some (f, x)
        | _, _ => none
      else none
    | none => none
  | none => none

theorem methodS_ok {cx : Cx} {t : TypeId} {x r : SV} {name : String} {f : FuncId} (h : methodS cx t x name = some (f, r)) (ρ : Env) (β : Bt) (w : World) (n : Nat) :
    (method (n + 1) t (x.den ρ β) name).run cx.P w = .ok (f, r.den ρ β) w := by
  unfold methodS at h
  split at h
  case h_2 => cases h
  rename_i i hi
  split at h
  case h_2 => cases h
  rename_i m hm
  split at h
  case isFalse => cases h
  rename_i hp
  have hp' : m.path.toList = [] := by simpa [Array.isEmpty_iff] using hp
  split at h
  · rename_i f' e hf hu
    cases h
    simp [method, run_typeInfo_of hi, hm, hp', follow, hf, receiverAt, run_und hu, Place.get]
  · cases h
  · rename_i f' d hn hf hu
    cases h
    simp only [method, Sem.run_bind, run_typeInfo_of hi, Result.andThen_ok, hm, hp', follow, hf, receiverAt, run_und hu, Sem.run_pure]
    cases d <;> simp_all [Place.get]
  · cases h

def callS (cx : Cx) (cf : CF) (ex : XF) (f : FuncId) (args : List SV) (s : St) : R :=
  match ex f args with
  | some v => ret s v
  | none => if hasBody cx f then cf f args s else .bad 30

def opC (cx : Cx) (cf : CF) (ex : XF) (tm : List SV) (s : St) (o : Oper) : R :=
  match o.op with
  | .call c => match c.callee with
    | .value f => match evO tm f with
      | .func (.func fid) first cap => callS cx cf ex fid (first ++ c.args.toList.map (evO tm) ++ cap) s
      | _ => .bad 31
    | .invoke x name => match evO tm x with
      | .iface t v => match methodS cx t v name with
        | some (fid, rv) => callS cx cf ex fid (rv :: c.args.toList.map (evO tm)) s
        | none => .bad 32
      | _ => .bad 33
    | .builtin _ => opS cx tm s o
  | _ => opS cx tm s o

def Post (_cx : Cx) (ρ : Env) (β : Bt) (s s' : St) (w : World) (o : Oper) (r : SV) (V : Value) (w' : World) : Prop :=
  ∃ β', V = r.den ρ β' ∧ Sat ρ β' s' w' ∧ Ext s s' β β' w w' ∧ (chg o.op = false → β' = β)

section
variable {cx : Cx} {ρ : Env} {β : Bt} {s s' : St} {w : World} {tm : List SV} {a : Act} {o : Oper} {r : SV} {cf : CF} {ex : XF}

theorem More.good (h : More cx ρ β s s' w o a r) : OpGood cx.P o a w (Post cx ρ β s s' w o r) :=
  let ⟨β', _, h1, h2, h3, h4, _⟩ := h; h1.good ⟨β', rfl, h2, h3, h4⟩

theorem callS_ok (hcx : CxOk cx) (hcf : CallOk cx cf) (hex : XOk cx ex) (hρ : EnvOk cx ρ) (hs : Sat ρ β s w) {f : FuncId} {args : List SV} (h : (callS cx cf ex f args s).sel ρ = some (r, s'))
    (hrun : (execOp a.eval o).run cx.P w = (callFunc f (SV.denL ρ β args).toArray).run cx.P w) (hch : chg o.op = true) : OpGood cx.P o a w (Post cx ρ β s s' w o r) := by
  unfold callS at h
  split at h
  · rename_i v hv
    cases h
    have := hex ρ β w f args _ hρ hv
    exact (Res.good (.inl (hrun.trans this))) ⟨β, rfl, hs, Ext.refl _ _ _, fun h' => Bool.noConfusion (hch.symm.trans h')⟩
  · split at h
    · rename_i hb
      unfold hasBody at hb
      split at hb
      · rename_i fn hfn
        intro K Q hk
        unfold Oper.wp
        rw [hrun]
        have hcall : (callFunc f (SV.denL ρ β args).toArray).run cx.P w = .ok (.enter f (SV.denL ρ β args).toArray) w := by
          have hfn := cx.fnOk _ _ hfn
          have hn := hcx.nogo f fn hfn
          obtain ⟨bd, hbd⟩ := Option.isSome_iff_exists.1 hb
          simp only [callFunc, Sem.run_bind, run_program, Result.andThen_ok, hfn, hn, hbd]
          simp
        rw [hcall, Oper.upon_enter]
        refine (hcf ρ β s s' w f args r hρ hs h).mono ?_
        rintro e w' ⟨β', rfl, h1, h2⟩
        exact hk _ _ ⟨β', rfl, h1, h2, fun h' => Bool.noConfusion (hch.symm.trans h')⟩
      · cases hb
    · cases h

theorem opC_ok (hcx : CxOk cx) (hcf : CallOk cx cf) (hex : XOk cx ex) (hρ : EnvOk cx ρ) (ht : a.tmps = (SV.denL ρ β tm).toArray) (hs : Sat ρ β s w) (h : (opC cx cf ex tm s o).sel ρ = some (r, s')) :
    OpGood cx.P o a w (Post cx ρ β s s' w o r) := by
  unfold opC at h
  split at h
  · rename_i c hc
    split at h
    · rename_i f hf
      split at h
      · rename_i fid first cap hv
        refine callS_ok hcx hcf hex hρ hs h ?_ (by rw [hc]; rfl)
        obtain ⟨callee, args, ats⟩ := c
        simp only at hf
        subst hf
        simp only [execOp, hc, resolve, evO_den ht f, hv, SV.den, Deferred.ofValue, Sem.run_bind, Sem.run_pure, Result.andThen_ok, invoke, ops_map tm ht]
        congr 2
        apply Array.ext'
        simp
      · cases h
    · rename_i x name hf
      split at h
      · rename_i t v hv
        split at h
        · rename_i fid rv hm
          refine callS_ok hcx hcf hex hρ hs h ?_ (by rw [hc]; rfl)
          obtain ⟨callee, args, ats⟩ := c
          simp only at hf
          subst hf
          have hmm := methodS_ok hm ρ β w (cx.P.types.size + Made.depth - 1)
          have hdep : 0 < Made.depth := by decide
          rw [show cx.P.types.size + Made.depth - 1 + 1 = cx.P.types.size + Made.depth from by omega] at hmm
          simp only [execOp, hc, resolve, evO_den ht x, hv, SV.den, Sem.run_bind, Sem.run_pure, Result.andThen_ok, invoke, ops_map tm ht]
          simp only [callMethod, Array.getElem?_append, List.size_toArray, List.length_cons, List.length_nil]
          simp only [Nat.zero_add, Nat.zero_lt_one, if_true, List.getElem?_toArray, List.getElem?_cons_zero, Sem.run_bind, run_program, Result.andThen_ok, hmm]
          congr 2
          apply Array.ext'
          simp [SV.denL]
          rw [List.take_of_length_le (by simp)]
        · cases h
      · cases h
    · exact (opS_ok hρ ht hs h).good
  · exact (opS_ok hρ ht hs h).good

end
end Go.Eng
end

/-! A symbolic executor, part H: regions in the text's order. -/
section
set_option linter.unusedVariables false
set_option linter.unusedSimpArgs false
namespace Go.Eng

def putS (tm : List SV) (d : Option Tmp) (v : SV) : List SV :=
  match d with
  | some d => tm.set d v
  | none => tm

theorem putS_den {ρ : Env} {β : Bt} {tm : List SV} {a : Act} (ht : a.tmps = (SV.denL ρ β tm).toArray) (d : Option Tmp) (v : SV) :
    (a.put d (v.den ρ β)).tmps = (SV.denL ρ β (putS tm d v)).toArray := by
  cases d with
  | none => exact ht
  | some d => simp [Act.put, putS, ht, denL_set]

theorem put_defers (a : Act) (d : Option Tmp) (v : Value) : (a.put d v).defers = a.defers := by cases d <;> rfl

/-- is an operation wanted? (its guard): yes, no, or by a condition -/
inductive Wd where
  | yes | no | on (e : E) (want : Bool) | unk

def wantS (ops : Array Oper) (tm : List SV) (o : Oper) : Wd :=
  match o.guard with
  | none => .yes
  | some (j, want) => match (ops[j]?).bind (·.dst) with
    | none => .no
    | some d => match tm[d]? with
      | none => .no
      | some (.bool e) => .on e want
      | some (.tup _) => .no
      | some (.int _ _) => .no
      | _ => .unk

theorem wantS_ok {ρ : Env} {β : Bt} {ops : Array Oper} {tm : List SV} {o : Oper} {a : Act} (ht : a.tmps = (SV.denL ρ β tm).toArray) :
    match wantS ops tm o with
    | .yes => Region.wanted o (yielded ops a.tmps) = true
    | .no => Region.wanted o (yielded ops a.tmps) = false
    | .on e want => Region.wanted o (yielded ops a.tmps) = ((e.ev ρ != 0) == want)
    | .unk => True := by
  unfold wantS Region.wanted
  cases o.guard with
  | none => rfl
  | some g =>
    obtain ⟨j, want⟩ := g
    simp only [yielded, ht]
    cases hd : (ops[j]?).bind (·.dst) with
    | none => rfl
    | some d =>
      simp only [Option.bind_some, List.getElem?_toArray, denL_get]
      cases htm : tm[d]? with
      | none => rfl
      | some v => cases v <;> simp [SV.den]

abbrev RR := T (List SV × St)

def runOps (cx : Cx) (cf : CF) (ex : XF) (ops : Array Oper) : List Oper → List SV → St → RR
  | [], tm, s => .leaf (tm, s)
  | o :: rest, tm, s =>
    let go (s : St) : RR := (opC cx cf ex tm s o).bind fun r =>
      if !chg o.op || SV.scL s.bl.length tm then SV.share cx r.1 r.2 fun v s2 => runOps cx cf ex ops rest (putS tm o.dst v) s2 else .bad 40
    let pass (s : St) : RR := runOps cx cf ex ops rest (putS tm o.dst undefS) s
    match wantS ops tm o with
    | .yes => go s
    | .no => pass s
    | .on e want => if want then fork s e go pass else fork s e pass go
    | .unk => .bad 41

/-- behind a list of operations -/
def Beh (ρ : Env) (β : Bt) (s : St) (w : World) (ds : List Deferred) (tm' : List SV) (s' : St) (a' : Act) (w' : World) : Prop :=
  ∃ β', a'.tmps = (SV.denL ρ β' tm').toArray ∧ a'.defers = ds ∧ Sat ρ β' s' w' ∧ Ext s s' β β' w w'

theorem Beh.of {ρ : Env} {β β1 : Bt} {s s1 : St} {w w1 : World} {ds : List Deferred} {tm' : List SV} {s' : St} {a' : Act} {w' : World} (h : Ext s s1 β β1 w w1) (k : Beh ρ β1 s1 w1 ds tm' s' a' w') :
    Beh ρ β s w ds tm' s' a' w' :=
  let ⟨β', h1, h2, h3, h4⟩ := k; ⟨β', h1, h2, h3, h.trans h4⟩

section
variable {cx : Cx} {ρ : Env} {cf : CF} {ex : XF}

theorem runOps_ok (hcx : CxOk cx) (hcf : CallOk cx cf) (hex : XOk cx ex) (hρ : EnvOk cx ρ) (ops : Array Oper) : ∀ (l : List Oper) {tm tm' : List SV} {s s' : St} {β : Bt} {w : World} {a : Act} {Q : Exit → Act → World → Prop},
    a.tmps = (SV.denL ρ β tm).toArray → Sat ρ β s w → (runOps cx cf ex ops l tm s).sel ρ = some (tm', s') →
    (∀ a' w', Beh ρ β s w a.defers tm' s' a' w' → Q .normal a' w') → wpList cx.P ops Q l a w
  | [], tm, tm', s, s', β, w, a, Q, ht, hs, h, hQ => by
    cases h
    exact hQ _ _ ⟨β, ht, rfl, hs, Ext.refl _ _ _⟩
  | o :: rest, tm, tm', s, s', β, w, a, Q, ht, hs, h, hQ => by
    have ih := fun {tm s β w a Q} => runOps_ok hcx hcf hex hρ ops rest (tm := tm) (tm' := tm') (s := s) (s' := s') (β := β) (w := w) (a := a) (Q := Q)
    have hw := wantS_ok (ops := ops) (o := o) ht
    -- the operation is done
    have go : ∀ s1, s1.bl = s.bl → Sat ρ β s1 w → Region.wanted o (yielded ops a.tmps) = true →
        ((opC cx cf ex tm s1 o).bind fun r => if !chg o.op || SV.scL s1.bl.length tm then SV.share cx r.1 r.2 fun v s2 => runOps cx cf ex ops rest (putS tm o.dst v) s2 else .bad 40).sel ρ = some (tm', s') → wpList cx.P ops Q (o :: rest) a w := by
      intro s1 e1 hs1 hwant h
      obtain ⟨⟨r, s2⟩, h1, h2⟩ := T.sel_bind_some h
      simp only [wpList, hwant, if_true]
      refine .inl (opC_ok hcx hcf hex hρ ht hs1 h1 _ _ ?_)
      rintro V w' ⟨β', rfl, hs2, hx2, hch⟩
      split at h2
      · rename_i hc
        have htm : (SV.denL ρ β tm) = SV.denL ρ β' tm := by
          simp only [Bool.or_eq_true, Bool.not_eq_true'] at hc
          rcases hc with hc | hc
          · rw [hch hc]
          · exact (SV.denL_sc hx2.ag tm hc).symm
        rw [htm] at ht
        obtain ⟨v1, s3, hv1, hbl, hs3, h3⟩ := SV.share_ok hρ r hs2 h2
        rw [← hv1 β']
        refine ih (putS_den ht _ _) hs3 h3 fun a' w'' hb => hQ a' w'' ?_
        rw [put_defers] at hb
        exact (((ext_kn e1 β w).trans hx2).trans (ext_kn hbl β' w') |> fun x => hb.of x)
      · cases h2
    have pass : ∀ s1, s1.bl = s.bl → Sat ρ β s1 w → Region.wanted o (yielded ops a.tmps) = false →
        (runOps cx cf ex ops rest (putS tm o.dst undefS) s1).sel ρ = some (tm', s') → wpList cx.P ops Q (o :: rest) a w := by
      intro s1 e1 hs1 hwant h
      simp only [wpList, hwant, Bool.false_eq_true, if_false]
      refine ih (putS_den ht o.dst undefS) hs1 h fun a' w'' hb => hQ a' w'' ?_
      rw [put_defers] at hb
      exact hb.of (ext_kn e1 β w)
    simp only [runOps] at h
    cases hwd : wantS ops tm o with
    | yes => rw [hwd] at h hw; exact go s rfl hs hw h
    | no => rw [hwd] at h hw; exact pass s rfl hs hw h
    | unk => rw [hwd] at h; cases h
    | on e want =>
      rw [hwd] at h hw
      simp only at h hw
      cases want
      · simp only [Bool.false_eq_true, if_false] at h
        obtain ⟨s1, e1, hs1, ⟨hne, h⟩ | ⟨h0, h⟩⟩ := fork_ok hs h
        · exact pass s1 e1 hs1 (by rw [hw]; simpa using hne) h
        · exact go s1 e1 hs1 (by rw [hw]; simpa using h0) h
      · simp only [if_true] at h
        obtain ⟨s1, e1, hs1, ⟨hne, h⟩ | ⟨h0, h⟩⟩ := fork_ok hs h
        · exact go s1 e1 hs1 (by rw [hw]; simpa using hne) h
        · exact pass s1 e1 hs1 (by rw [hw]; simpa using h0) h

end
end Go.Eng
end

/-! A symbolic executor, part I: regions that draw their order. -/
section
set_option linter.unusedVariables false
set_option linter.unusedSimpArgs false
namespace Go.Eng

/-! ### a value that does not name a block -/

def Bs.av (n : Nat) : Bs → Bool
  | .own j => j != n
  | .inp _ => true

mutual
def SV.av (n : Nat) : SV → Bool
  | .sl b _ _ _ _ => b.av n
  | .ep b _ _ _ => b.av n
  | .cp j _ _ _ _ => j != n
  | .wild j => j != n
  | .ptr j _ => j != n
  | .slice j _ _ _ => j != n
  | .func _ a c => SV.avL n a && SV.avL n c
  | .iface _ x => x.av n
  | .agg l => SV.avL n l
  | .tup l => SV.avL n l
  | _ => true
def SV.avL (n : Nat) : List SV → Bool
  | [] => true
  | x :: l => x.av n && SV.avL n l
end

mutual
theorem SV.den_av {ρ : Env} {β β' : Bt} {n : Nat} (hb : ∀ j, j ≠ n → β' j = β j) : ∀ (s : SV), s.av n = true → s.den ρ β' = s.den ρ β
  | .int _ _, _ => rfl
  | .bool _, _ => rfl
  | .ptr j off, h => by simp [SV.av] at h; simp [SV.den, hb j h]
  | .lit _, _ => rfl
  | .any _, _ => rfl
  | .slice j off len cap, h => by simp [SV.av] at h; simp [SV.den, hb j h]
  | .func fn a c, h => by simp [SV.av] at h; simp [SV.den, SV.denL_av hb a h.1, SV.denL_av hb c h.2]
  | .iface t x, h => by simp [SV.av] at h; simp [SV.den, SV.den_av hb x h]
  | .agg l, h => by simp [SV.av] at h; simp [SV.den, SV.denL_av hb l h]
  | .tup l, h => by simp [SV.av] at h; simp [SV.den, SV.denL_av hb l h]
  | .str _, _ => rfl
  | .sl (.own j) _ _ _ _, h => by simp [SV.av, Bs.av] at h; simp [SV.den, hb j h]
  | .sl (.inp _) _ _ _ _, _ => by simp [SV.den]
  | .ep (.own j) _ _ _, h => by simp [SV.av, Bs.av] at h; simp [SV.den, hb j h]
  | .ep (.inp _) _ _ _, _ => by simp [SV.den]
  | .cp j _ _ _ _, h => by simp [SV.av] at h; simp [SV.den, hb j h]
  | .wild j, h => by simp [SV.av] at h; simp [SV.den, hb j h]
theorem SV.denL_av {ρ : Env} {β β' : Bt} {n : Nat} (hb : ∀ j, j ≠ n → β' j = β j) : ∀ (l : List SV), SV.avL n l = true → SV.denL ρ β' l = SV.denL ρ β l
  | [], _ => rfl
  | x :: l, h => by simp [SV.avL] at h; simp [SV.denL, SV.den_av hb x h.1, SV.denL_av hb l h.2]
end

def SBlk.av (n : Nat) : SBlk → Bool
  | .gone => true
  | .cells l _ _ => SV.avL n l
  | .arr _ _ _ _ => true

theorem blkOk_av {ρ : Env} {β β' : Bt} {n : Nat} (hb : ∀ j, j ≠ n → β' j = β j) {b : SBlk} (hs : b.av n = true) {q : Nat} {o : Option Obj} (h : blkOk ρ β q b o) : blkOk ρ β' q b o := by
  cases b with
  | gone => trivial
  | cells l e op =>
    simp only [SBlk.av] at hs
    obtain ⟨tl, h1, h2, h3⟩ := h
    exact ⟨tl, by rw [SV.denL_av hb l hs]; exact h1, h2, fun sz hsz => by rw [SV.denL_av hb l hs]; exact h3 sz hsz⟩
  | arr cks e c n => exact h

/-! ### a new block at a place that was kept for it -/

def St.isGone (s : St) (j : Nat) : Bool := match s.bl[j]? with
  | some .gone => true
  | _ => false

def reviveS (s : St) (j : Nat) (l : List SV) (e : TypeId) : Option St :=
  if s.isGone j && s.bl.all (·.av j) && SV.avL j l then some { s with bl := s.bl.set j (.cells l e none) } else none

def bset (β : Bt) (n m : Nat) : Bt := fun j => if j = n then (m, 0, .nilIface) else β j

theorem reviveS_ok {ρ : Env} {β β0 : Bt} {s s' s0 : St} {w w0 : World} {j : Nat} {l : List SV} {e : TypeId} (hs : Sat ρ β s w) (hx : Ext s0 s β0 β w0 w) (hj : s0.bl.length ≤ j)
    (h : reviveS s j l e = some s') :
    Sat ρ (bset β j w.heap.size) s' (w.alloc (.cells (SV.denL ρ β l).toArray e)) ∧ Ext s0 s' β0 (bset β j w.heap.size) w0 (w.alloc (.cells (SV.denL ρ β l).toArray e)) ∧
      (∀ i, i ≠ j → bset β j w.heap.size i = β i) ∧ s'.bl.length = s.bl.length ∧ s'.kn = s.kn := by
  unfold reviveS at h
  split at h <;> cases h
  rename_i hc
  simp only [Bool.and_eq_true] at hc
  obtain ⟨⟨hg, hav⟩, hl⟩ := hc
  have hag : ∀ i, i ≠ j → bset β j w.heap.size i = β i := fun i hi => by unfold bset; rw [if_neg hi]
  have hgj : s.bl[j]? = some .gone := by
    unfold St.isGone at hg
    split at hg
    · assumption
    · cases hg
  have hlt := (List.getElem?_eq_some_iff.1 hgj).1
  have hold : ∀ b, b < w.heap.size → (w.alloc (.cells (SV.denL ρ β l).toArray e)).heap[b]? = w.heap[b]? := by
    intro b hb
    show (w.heap.push _)[b]? = _
    rw [Array.getElem?_push, if_neg (by omega)]
  have hlive : ∀ i, live (bset β j w.heap.size) { s with bl := s.bl.set j (.cells l e none) } i → (live β s i ∧ i ≠ j) ∨ i = j := by
    rintro i ⟨b, hi, ho⟩
    by_cases hij : i = j
    · exact .inr hij
    · rw [List.getElem?_set_ne (Ne.symm hij)] at hi
      exact .inl ⟨⟨b, hi, by rw [← hag i hij]; exact ho⟩, hij⟩
  have hx' : Ext s0 { s with bl := s.bl.set j (.cells l e none) } β0 (bset β j w.heap.size) w0 (w.alloc (.cells (SV.denL ρ β l).toArray e)) := by
    refine ⟨fun i hi => (hag i (by omega)).trans (hx.ag i hi), fun i hi hl' => ?_, fun i hi hl' => ?_, by simp only [World.size_alloc]; have := hx.size; omega,
      fun b hb hn => (hold b (by have := hx.size; omega)).trans (hx.fr b hb hn), by simp [hx.len], hx.os, hx.tape, hx.output⟩
    · rcases hlive i hl' with ⟨hl', _⟩ | rfl
      · exact hx.old i hi hl'
      · omega
    · rcases hlive i hl' with ⟨hl', hij⟩ | rfl
      · rw [hag i hij]; exact hx.fresh i hi hl'
      · exact .inl (by simp [bset]; exact hx.size)
  have hx2 : Ext s { s with bl := s.bl.set j (.cells l e none) } β β w (w.alloc (.cells (SV.denL ρ β l).toArray e)) → True := fun _ => trivial
  refine ⟨⟨?_, ?_, hs.kn, ?_⟩, hx', hag, by simp, rfl⟩
  · intro i b hi
    by_cases hij : i = j
    · subst hij
      simp [hlt] at hi
      subst hi
      refine ⟨[], ?_, fun _ => rfl, fun _ h => by cases h⟩
      rw [SV.denL_av hag l hl]
      show (w.heap.push _)[(bset β i w.heap.size i).1]? = _
      simp [bset]
    · rw [List.getElem?_set_ne (Ne.symm hij)] at hi
      rw [hag i hij]
      have hb := blkOk_av hag (List.all_eq_true.1 hav b (List.mem_of_getElem? hi)) (hs.blk i b hi)
      exact blkOk_same (fun ho => hold _ (hs.lt ⟨b, hi, ho⟩)) hb
  · intro a b ha hb he
    rcases hlive a ha with ⟨ha1, ha'⟩ | ha1 <;> rcases hlive b hb with ⟨hb1, hb'⟩ | hb1
    · rw [hag a ha', hag b hb'] at he; exact hs.inj a b ha1 hb1 he
    · rw [hag a ha', hb1] at he
      have := hs.lt ha1
      simp [bset] at he
      omega
    · rw [hag b hb', ha1] at he
      have := hs.lt hb1
      simp [bset] at he
      omega
    · rw [ha1, hb1]
  · intro k a i x ha hi
    obtain ⟨h1, h2⟩ := hs.ro k a i x ha hi
    have hlt2 := hs.roLt ha hi
    refine ⟨?_, fun i' hi' => ?_⟩
    · rw [← h1]
      refine cell_same ?_
      rw [addr_add']
      exact hold _ hlt2
    · rcases hlive i' hi' with ⟨hl', hij⟩ | rfl
      · rw [hag i' hij]; exact h2 i' hl'
      · simp [bset]; omega

/-! ### what stays -/

/-- the blocks of the beginning that are now as they were then, and that stay so: s0 masks the others -/
def SBlk.beq : SBlk → SBlk → Bool
  | .gone, .gone => true
  | .cells l e o, .cells l' e' o' => SV.beqL l l' && e == e' && decide (o = o')
  | .arr k e q n, .arr k' e' q' n' => decide (k = k') && e == e' && q.beq q' && n.beq n'
  | _, _ => false
theorem SBlk.eq_of_beq {a b : SBlk} (h : a.beq b = true) : a = b := by
  cases a <;> cases b <;> simp only [SBlk.beq, Bool.and_eq_true, decide_eq_true_eq, beq_iff_eq] at h <;> first | rfl | (cases h; done) | skip
  · rw [SV.eqL_of_beq _ _ h.1.1, h.1.2, h.2]
  · rw [h.1.1.1, h.1.1.2, E.eq_of_beq h.1.2, E.eq_of_beq h.2]

def stays : List SBlk → List SBlk → Bool
  | [], _ => true
  | .gone :: l, _ :: m => stays l m
  | b :: l, c :: m => b.beq c && stays l m
  | _ :: _, [] => false

theorem stays_ok : ∀ {l m : List SBlk}, stays l m = true → ∀ (j : Nat) (b : SBlk), l[j]? = some b → b = SBlk.gone ∨ m[j]? = some b
  | [], m, _, j, b, hj => by simp at hj
  | .gone :: l, c :: m, h, 0, b, hj => by simp at hj; exact .inl hj.symm
  | .gone :: l, c :: m, h, j + 1, b, hj => by
    simp only [stays] at h
    simpa using stays_ok h j b (by simpa using hj)
  | .cells a e o :: l, c :: m, h, 0, b, hj => by
    simp only [stays, Bool.and_eq_true] at h
    simp at hj
    right
    rw [← hj, SBlk.eq_of_beq h.1]; simp
  | .cells a e o :: l, c :: m, h, j + 1, b, hj => by
    simp only [stays, Bool.and_eq_true] at h
    simpa using stays_ok h.2 j b (by simpa using hj)
  | .arr a e q n :: l, c :: m, h, 0, b, hj => by
    simp only [stays, Bool.and_eq_true] at h
    simp at hj
    right
    rw [← hj, SBlk.eq_of_beq h.1]; simp
  | .arr a e q n :: l, c :: m, h, j + 1, b, hj => by
    simp only [stays, Bool.and_eq_true] at h
    simpa using stays_ok h.2 j b (by simpa using hj)
  | .gone :: l, [], h, _, _, _ => by simp [stays] at h
  | .cells _ _ _ :: l, [], h, _, _, _ => by simp [stays] at h
  | .arr _ _ _ _ :: l, [], h, _, _, _ => by simp [stays] at h

/-- mask: what is known of less blocks -/
theorem Sat.mask {ρ : Env} {β : Bt} {s s1 : St} {w : World} (h : Sat ρ β s w) (hb : ∀ (j : Nat) (b : SBlk), s1.bl[j]? = some b → b = SBlk.gone ∨ s.bl[j]? = some b) (hk : ∀ e b, (e, b) ∈ s1.kn → (e.ev ρ != 0) = b) : Sat ρ β s1 w := by
  have hl : ∀ j, live β s1 j → live β s j := by
    rintro j ⟨b, hj, ho⟩
    rcases hb j _ hj with rfl | h
    · cases ho
    · exact ⟨b, h, ho⟩
  exact ⟨fun j b hj => by
    rcases hb j b hj with rfl | hj
    · trivial
    · exact h.blk j b hj, fun a b ha hb he => h.inj a b (hl a ha) (hl b hb) he, hk, h.ro.less hl⟩

/-- the same, under other names of what is not named -/
theorem Sat.rename {ρ : Env} {β β' : Bt} {s : St} {w : World} (h : Sat ρ β s w) {n : Nat} (hn : s.bl.length ≤ n) (hag : ∀ j, j < n → β' j = β j) (hsc : s.sc n = true) : Sat ρ β' s w :=
  ⟨fun j b hj => by
    have := (List.getElem?_eq_some_iff.1 hj).1
    rw [hag j (by omega)]
    exact blkOk_sc hag (List.all_eq_true.1 hsc b (List.mem_of_getElem? hj)) (h.blk j b hj),
   fun a b ha hb he => by
    have h1 := live_lt ha
    have h2 := live_lt hb
    have e1 := hag a (by omega)
    have e2 := hag b (by omega)
    rw [e1, e2] at he
    exact h.inj a b (live_ag e1 ha) (live_ag e2 hb) he, h.kn, fun k a i x ha hi => by
    obtain ⟨h1, h2⟩ := h.ro k a i x ha hi
    refine ⟨h1, fun j hj => ?_⟩
    have h3 := live_lt hj
    have e1 := hag j (by omega)
    rw [e1]
    exact h2 j (live_ag e1 hj)⟩

/-! ### the walk through all orders -/

inductive X where
  | ok (tm : List SV) (s : St)
  | need (e : E)
  | bad (n : Nat)

def blBeq : List SBlk → List SBlk → Bool
  | [], [] => true
  | a :: l, b :: m => a.beq b && blBeq l m
  | _, _ => false
theorem bl_of_beq : ∀ {l m : List SBlk}, blBeq l m = true → l = m
  | [], [], _ => rfl
  | a :: l, b :: m, h => by
    simp only [blBeq, Bool.and_eq_true] at h
    rw [SBlk.eq_of_beq h.1, bl_of_beq h.2]
  | [], _ :: _, h => by cases h
  | _ :: _, [], h => by cases h

def X.join : X → X → X
  | .ok tm s, .ok tm' s' => if SV.beqL tm tm' && blBeq s.bl s'.bl then .ok tm s else .bad 50
  | .need e, _ => .need e
  | .ok _ _, .need e => .need e
  | .bad n, _ => .bad n
  | _, .bad n => .bad n

structure D where
  cx : Cx
  cf : CF
  ex : XF
  ops : Array Oper
  s0 : St        -- what stays, of the beginning
  n0 : Nat

def isAlloc : Op → Bool
  | .alloc _ | .box _ _ | .buildSlice _ _ _ => true
  | _ => false
/-- how many operations ahead of number i make a box -/
def allocsTo (ops : Array Oper) (i : Nat) : Nat := ((ops.toList.take i).filter fun o => isAlloc o.op).length

/-- a guard, decided: yes, no, or: a condition is needed -/
inductive Gd where
  | yes | no | need (e : E) | unk
def gdS (ops : Array Oper) (tm : List SV) (s : St) (o : Oper) : Gd :=
  match wantS ops tm o with
  | .yes => .yes
  | .no => .no
  | .unk => .unk
  | .on e want => match e with
    | .c n => if (n != 0) == want then .yes else .no
    | e => match knows s e with
      | some b => if b == want then .yes else .no
      | none => .need e

def D.step (d : D) (i : Nat) (tm : List SV) (s : St) : X :=
  match d.ops[i]? with
  | none => .bad 51
  | some o =>
    match gdS d.ops tm s o with
    | .unk => .bad 52
    | .need e => .need e
    | .no => .ok (putS tm o.dst undefS) s
    | .yes =>
      let j := d.n0 + allocsTo d.ops i
      let mk (el : TypeId) (l : List SV) : X := match reviveS s j l el with
        | some s1 => if SV.avL j tm && stays d.s0.bl s1.bl then .ok (putS tm o.dst (.ptr j 0)) s1 else .bad 53
        | none => .bad 54
      match o.op with
      | .alloc el => match zeroS d.cx el with
        | some z => match z.cells with
          | some l => mk el l
          | none => .bad 55
        | none => .bad 55
      | .box el x => match (evO tm x).cells with
        | some l => mk el l
        | none => .bad 56
      | .buildSlice t len parts => match rowC d.cx t len (parts.toList.map fun p => (p.1, evO tm p.2)) with
        | some (el, l) => match reviveS s j l el with
          | some s1 => if SV.avL j tm && stays d.s0.bl s1.bl then .ok (putS tm o.dst (.slice j 0 len (some len))) s1 else .bad 53
          | none => .bad 54
        | none => .bad 59
      | _ => match opC d.cx d.cf d.ex tm s o with
        | .leaf r => if (!chg o.op || SV.scL s.bl.length tm) && stays d.s0.bl r.2.bl then .ok (putS tm o.dst (r.1.ren d.cx d.s0.kn)) r.2 else .bad 57
        | .new _ _ _ => .bad 64
        | .br e _ _ => .need e
        | .bad n => .bad n

/-- an operation that may be taken first: its value -/
def D.take (d : D) (listed : Array Bool) (i : Nat) (tm : List SV) : Option SV :=
  match d.ops[i]? with
  | none => none
  | some o =>
    match gdS d.ops tm d.s0 o with
    | .no => if Region.free .any d.ops listed i then some undefS else none
    | .yes => if valOp o.op then
        match opS d.cx tm d.s0 o with
        | .leaf r => if Region.free .any d.ops listed i then some (r.1.ren d.cx d.s0.kn) else none
        | _ => none
      else none
    | _ => none

def D.takeOne (d : D) (listed : Array Bool) (tm : List SV) : List Nat → Option (Nat × SV)
  | [] => none
  | i :: l => match d.take listed i tm with
    | some v => some (i, v)
    | none => d.takeOne listed tm l

def dstOf (ops : Array Oper) (i : Nat) : Option Tmp := (ops[i]?).bind (·.dst)

def D.explore (d : D) : Nat → Array Bool → List SV → St → X
  | 0, listed, tm, s => match Region.ready .any d.ops listed with
    | [] => .ok tm s
    | _ => .bad 58
  | fuel + 1, listed, tm, s =>
    match Region.ready .any d.ops listed with
    | [] => .ok tm s
    | i :: rest =>
      match d.takeOne listed tm (i :: rest) with
      | some (k, v) => d.explore fuel (listed.setIfInBounds k true) (putS tm (dstOf d.ops k) v) s
      | none =>
        let one (k : Nat) : X := match d.step k tm s with
          | .ok tm1 s1 => d.explore fuel (listed.setIfInBounds k true) tm1 s1
          | r => r
        rest.foldl (fun acc k => acc.join (one k)) (one i)

theorem X.join_ok {a b : X} {tm : List SV} {s : St} (h : a.join b = .ok tm s) : a = .ok tm s ∧ ∃ s', b = .ok tm s' ∧ s'.bl = s.bl := by
  unfold X.join at h
  split at h
  · split at h <;> cases h
    rename_i hc
    simp only [Bool.and_eq_true] at hc
    exact ⟨rfl, _, by rw [SV.eqL_of_beq _ _ hc.1], (bl_of_beq hc.2).symm⟩
  all_goals cases h

theorem foldl_join {one : Nat → X} : ∀ (l : List Nat) (acc : X) {tm : List SV} {s : St}, l.foldl (fun a k => a.join (one k)) acc = .ok tm s → acc = .ok tm s ∧ ∀ k ∈ l, ∃ s', one k = .ok tm s' ∧ s'.bl = s.bl
  | [], acc, tm, s, h => ⟨h, fun k hk => by cases hk⟩
  | k :: l, acc, tm, s, h => by
    obtain ⟨h1, h2⟩ := foldl_join l (acc.join (one k)) h
    obtain ⟨h3, h4⟩ := X.join_ok h1
    exact ⟨h3, fun j hj => by
      rcases List.mem_cons.1 hj with rfl | hj
      · exact h4
      · exact h2 j hj⟩

/-- where the walk stands -/
structure Cur (d : D) (ρ : Env) (β0 : Bt) (s00 : St) (w0 : World) (ds : List Deferred) (tm : List SV) (s : St) (a : Act) (w : World) : Prop where
  ex : ∃ β, a.tmps = (SV.denL ρ β tm).toArray ∧ Sat ρ β s w ∧ Ext s00 s β0 β w0 w
  ds : a.defers = ds
  st : Sat ρ β0 d.s0 w

structure DOk (d : D) (ρ : Env) (β0 : Bt) (s00 : St) : Prop where
  hcx : CxOk d.cx
  hcf : CallOk d.cx d.cf
  hex : XOk d.cx d.ex
  hρ : EnvOk d.cx ρ
  len : s00.bl.length = d.n0
  sc : d.s0.sc d.n0 = true
  le : d.s0.bl.length ≤ d.n0
  kn : ∀ e b, (e, b) ∈ d.s0.kn → (e.ev ρ != 0) = b
  inj : ∀ i j, live β0 d.s0 i → live β0 d.s0 j → (β0 i).1 = (β0 j).1 → i = j

section
variable {d : D} {ρ : Env} {β0 : Bt} {s00 : St} {w0 : World} {ds : List Deferred}

theorem gdS_ok {ops : Array Oper} {tm : List SV} {s : St} {o : Oper} {a : Act} {β : Bt} {w : World} (ht : a.tmps = (SV.denL ρ β tm).toArray) (hs : Sat ρ β s w) :
    (gdS ops tm s o = .yes → Region.wanted o (yielded ops a.tmps) = true) ∧ (gdS ops tm s o = .no → Region.wanted o (yielded ops a.tmps) = false) := by
  have hw := wantS_ok (ops := ops) (o := o) ht
  unfold gdS
  cases hwd : wantS ops tm o with
  | yes => rw [hwd] at hw; exact ⟨fun _ => hw, fun h => (by cases h)⟩
  | no => rw [hwd] at hw; exact ⟨fun h => (by cases h), fun _ => hw⟩
  | unk => exact ⟨fun h => (by cases h), fun h => (by cases h)⟩
  | on e want =>
    rw [hwd] at hw
    simp only at hw ⊢
    split
    · rename_i n
      split
      · rename_i h; exact ⟨fun _ => by rw [hw]; exact h, fun h => (by cases h)⟩
      · rename_i h; exact ⟨fun h => (by cases h), fun _ => by rw [hw]; simpa [E.ev] using h⟩
    · split
      · rename_i b hb
        have hk := knows_ok hs hb
        split
        · rename_i h; exact ⟨fun _ => by rw [hw, hk]; exact h, fun h => (by cases h)⟩
        · rename_i h; exact ⟨fun h => (by cases h), fun _ => by rw [hw, hk]; simpa using h⟩
      · exact ⟨fun h => (by cases h), fun h => (by cases h)⟩

theorem stays_sat (hd : DOk d ρ β0 s00) {β : Bt} {s : St} {w : World} (hs : Sat ρ β s w) (hst : stays d.s0.bl s.bl = true) (hx : ∀ j, j < d.n0 → β j = β0 j) : Sat ρ β0 d.s0 w := by
  have h1 := hs.mask (s1 := d.s0) (stays_ok hst) hd.kn
  exact h1.rename hd.le (fun j hj => (hx j hj).symm) hd.sc

theorem step_ok (hd : DOk d ρ β0 s00) {i : Nat} {tm tm1 : List SV} {s s1 : St} {a : Act} {w : World} (hc : Cur d ρ β0 s00 w0 ds tm s a w) (h : d.step i tm s = .ok tm1 s1)
    {K : Act → World → Prop} {Q : Exit → Act → World → Prop} (hK : ∀ a' w', Cur d ρ β0 s00 w0 ds tm1 s1 a' w' → K a' w') : wpOp d.cx.P d.ops Q i K a w := by
  obtain ⟨⟨β, ht, hs, hx⟩, hds, hst⟩ := hc
  unfold D.step at h
  split at h
  · cases h
  · rename_i o ho
    unfold wpOp
    simp only [ho]
    obtain ⟨gy, gn⟩ := gdS_ok (ops := d.ops) (o := o) ht hs
    split at h
    · cases h
    · cases h
    · rename_i hg
      cases h
      rw [gn hg]
      simp only [Bool.false_eq_true, if_false]
      exact hK _ _ ⟨⟨β, putS_den ht o.dst undefS, hs, hx⟩, by rw [put_defers]; exact hds, hst⟩
    · rename_i hg
      rw [gy hg]
      simp only [if_true]
      left
      simp only at h
      -- a box
      have mk : ∀ (el : TypeId) (l : List SV), (match reviveS s (d.n0 + allocsTo d.ops i) l el with
          | some s1 => if SV.avL (d.n0 + allocsTo d.ops i) tm && stays d.s0.bl s1.bl then X.ok (putS tm o.dst (.ptr (d.n0 + allocsTo d.ops i) 0)) s1 else .bad 53
          | none => .bad 54) = .ok tm1 s1 →
          (execOp a.eval o).run d.cx.P w = .ok (.value (.pointer (some ⟨w.heap.size, 0, none⟩))) (w.alloc (.cells (SV.denL ρ β l).toArray el)) → o.wp d.cx.P a w K Q := by
        intro el l h hrun
        split at h
        · rename_i s2 h2
          split at h <;> cases h
          rename_i hh
          simp only [Bool.and_eq_true] at hh
          obtain ⟨r1, r2, r3, _, _⟩ := reviveS_ok hs hx (by have := hd.len; omega) h2
          refine Res.wp (.inl hrun) (hK _ _ ⟨⟨_, ?_, r1, r2⟩, by rw [put_defers]; exact hds, ?_⟩)
          · have hp : Value.pointer (some ⟨w.heap.size, 0, none⟩) = (SV.ptr (d.n0 + allocsTo d.ops i) 0).den ρ (bset β (d.n0 + allocsTo d.ops i) w.heap.size) := by simp [SV.den, bset]
            rw [hp]
            refine putS_den (ρ := ρ) ?_ _ _
            rw [ht, SV.denL_av r3 tm hh.1]
          · exact stays_sat hd r1 hh.2 (fun j hj => r2.ag j (by rw [hd.len]; exact hj))
        · cases h
      split at h
      · rename_i el hop
        split at h
        · rename_i z hz
          split at h
          · rename_i l hl
            refine mk el l h ?_
            simp only [execOp, hop]
            refine run_v ?_
            simp only [Instr.alloc, Sem.run_bind, zeroS_ok (ρ := ρ) (β := β) (w := w) hz, Result.andThen_ok]
            simp [newVar, newRow, (SV.cells_den hd.hρ β hl).1]
          · cases h
        · cases h
      · rename_i el x hop
        split at h
        · rename_i l hl
          refine mk el l h ?_
          simp only [execOp, hop]
          refine run_v ?_
          simp only [evO_den ht, Instr.box, Sem.run_bind]
          simp [newVar, newRow, (SV.cells_den hd.hρ β hl).1]
        · cases h
      · rename_i bt len parts hop
        split at h
        · rename_i el l hl
          split at h
          · rename_i s2 h2
            split at h <;> cases h
            rename_i hh
            simp only [Bool.and_eq_true] at hh
            obtain ⟨r1, r2, r3, _, _⟩ := reviveS_ok hs hx (by have := hd.len; omega) h2
            have hrun : (execOp a.eval o).run d.cx.P w = .ok (.value (.slice (some ⟨w.heap.size, 0, none⟩) len len)) (w.alloc (.cells (SV.denL ρ β l).toArray el)) := by
              simp only [execOp, hop]
              refine run_v ?_
              rw [parts_map tm ht]
              exact rowC_ok hd.hρ hl
            refine Res.wp (.inl hrun) (hK _ _ ⟨⟨_, ?_, r1, r2⟩, by rw [put_defers]; exact hds, ?_⟩)
            · have hp : Value.slice (some ⟨w.heap.size, 0, none⟩) len len = (SV.slice (d.n0 + allocsTo d.ops i) 0 len (some len)).den ρ (bset β (d.n0 + allocsTo d.ops i) w.heap.size) := by simp [SV.den, bset]
              rw [hp]
              refine putS_den (ρ := ρ) ?_ _ _
              rw [ht, SV.denL_av r3 tm hh.1]
            · exact stays_sat hd r1 hh.2 (fun j hj => r2.ag j (by rw [hd.len]; exact hj))
          · cases h
        · cases h
      · split at h
        · rename_i r hr
          split at h <;> cases h
          rename_i hh
          simp only [Bool.and_eq_true] at hh
          obtain ⟨hch, hstay⟩ := hh
          refine opC_ok hd.hcx hd.hcf hd.hex hd.hρ ht hs (r := r.1) (s' := r.2) (by rw [hr]; rfl) _ _ ?_
          rintro V w' ⟨β', rfl, hs2, hx2, hc2⟩
          have htm : (SV.denL ρ β tm) = SV.denL ρ β' tm := by
            simp only [Bool.or_eq_true, Bool.not_eq_true'] at hch
            rcases hch with hch | hch
            · rw [hc2 hch]
            · exact (SV.denL_sc hx2.ag tm hch).symm
          rw [htm] at ht
          have hx3 := hx.trans hx2
          refine hK _ _ ⟨⟨β', ?_, hs2, hx3⟩, by rw [put_defers]; exact hds, stays_sat hd hs2 hstay (fun j hj => hx3.ag j (by rw [hd.len]; exact hj))⟩
          rw [← SV.ren_den (cx := d.cx) hd.kn r.1]
          exact putS_den ht _ _
        · cases h
        · cases h
        · cases h

theorem take_ok (hd : DOk d ρ β0 s00) {listed : Array Bool} {i : Nat} {tm : List SV} {s : St} {v : SV} {a : Act} {w : World} {β : Bt} (ht : a.tmps = (SV.denL ρ β tm).toArray) (hx : Ext s00 s β0 β w0 w) (hst : Sat ρ β0 d.s0 w)
    (h : d.take listed i tm = some v) : ∃ o, d.ops[i]? = some o ∧ Region.free .any d.ops listed i = true ∧ YieldsIf d.cx.P d.ops (Sat ρ β0 d.s0) o (v.den ρ β) a := by
  unfold D.take at h
  split at h
  · cases h
  · rename_i o ho
    have hren : ∀ w', Sat ρ β0 d.s0 w' → Sat ρ β d.s0 w' := fun w' h' => h'.rename hd.le (fun j hj => hx.ag j (by rw [hd.len]; exact hj)) hd.sc
    obtain ⟨gy, gn⟩ := gdS_ok (ops := d.ops) (o := o) ht (hren w hst)
    split at h
    · rename_i hg
      split at h <;> cases h
      exact ⟨o, ho, by assumption, .inr ⟨gn hg, rfl⟩⟩
    · rename_i hg
      split at h
      · rename_i hv
        split at h
        · rename_i r hr
          split at h <;> cases h
          refine ⟨o, ho, by assumption, .inl ⟨gy hg, fun w' hw' => ?_⟩⟩
          obtain ⟨_, _, _, _, _, _, hrun⟩ := opS_ok (s := d.s0) (s' := r.2) (r := r.1) hd.hρ ht (hren w' hw') (by rw [hr]; rfl)
          rw [SV.ren_den (cx := d.cx) hd.kn r.1]
          exact hrun hv
        · cases h
      · cases h
    · cases h

theorem takeOne_ok {listed : Array Bool} {tm : List SV} : ∀ {l : List Nat} {i : Nat} {v : SV}, d.takeOne listed tm l = some (i, v) → i ∈ l ∧ d.take listed i tm = some v
  | [], _, _, h => by cases h
  | k :: l, i, v, h => by
    simp only [D.takeOne] at h
    split at h
    · rename_i u hu
      cases h
      exact ⟨by simp, hu⟩
    · obtain ⟨h1, h2⟩ := takeOne_ok h
      exact ⟨by simp [h1], h2⟩

theorem explore_ok (hd : DOk d ρ β0 s00) (hns : Region.noSelect d.ops = true) {Q : Exit → Act → World → Prop} (hQp : ∀ c a w, ¬ Q (.panic c) a w) : ∀ (fuel : Nat) {listed : Array Bool} {tm tm' : List SV} {s s' : St} {a : Act} {w : World},
    Cur d ρ β0 s00 w0 ds tm s a w → d.explore fuel listed tm s = .ok tm' s' →
    (∀ a' w' s'', s''.bl = s'.bl → Cur d ρ β0 s00 w0 ds tm' s'' a' w' → Q .normal a' w') → wpAnyH d.cx.P .any d.ops Q (Sat ρ β0 d.s0) fuel listed a w
  | 0, listed, tm, tm', s, s', a, w, hc, h, hQ => by
    simp only [D.explore] at h
    split at h
    · rename_i hr
      cases h
      exact ⟨hr, hQ _ _ _ rfl hc⟩
    · cases h
  | fuel + 1, listed, tm, tm', s, s', a, w, hc, h, hQ => by
    simp only [D.explore] at h
    split at h
    · rename_i hr
      cases h
      exact wpAnyH_done hr (hQ _ _ _ rfl hc) _
    · rename_i i rest hr
      split at h
      · rename_i k v hk
        obtain ⟨hmem, htk⟩ := takeOne_ok hk
        obtain ⟨⟨β, ht, hs, hx⟩, hds, hst⟩ := hc
        obtain ⟨o, ho, hfree, hy⟩ := take_ok hd ht hx hst htk
        refine wpAnyH_take ho hns hfree (by rw [hr]; simpa using hmem) (fun c a w h => absurd h (hQp c _ w)) hy hst ?_
        refine explore_ok hd hns hQp fuel ⟨⟨β, ?_, hs, hx⟩, by rw [put_defers]; exact hds, hst⟩ h hQ
        have : dstOf d.ops k = o.dst := by simp [dstOf, ho]
        rw [this]
        exact putS_den ht _ _
      · obtain ⟨h1, h2⟩ := foldl_join (one := fun k => match d.step k tm s with
          | .ok tm1 s1 => d.explore fuel (listed.setIfInBounds k true) tm1 s1
          | r => r) rest _ h
        refine wpAnyH_all hr (by simp) fun k hk => ?_
        have hone : ∃ sx, (match d.step k tm s with
          | .ok tm1 s1 => d.explore fuel (listed.setIfInBounds k true) tm1 s1
          | r => r) = .ok tm' sx ∧ sx.bl = s'.bl := by
          rcases List.mem_cons.1 hk with rfl | hk
          · exact ⟨_, h1, rfl⟩
          · exact h2 k hk
        obtain ⟨sx, hsx, hbl⟩ := hone
        split at hsx
        · rename_i tm1 s1 h3
          refine step_ok hd hc h3 fun a' w' hc' => ⟨hc'.st, ?_⟩
          exact explore_ok hd hns hQp fuel hc' hsx (fun a2 w2 s2 e2 c2 => hQ a2 w2 s2 (e2.trans hbl) c2)
        · rename_i hno
          exact absurd hsx (hno tm' sx)

theorem Cur.kn {tm : List SV} {s s2 : St} {a : Act} {w : World} (hd : DOk d ρ β0 s00) (h : Cur d ρ β0 s00 w0 ds tm s a w) (e : s2.bl = s.bl) (hk : s2.kn = d.s0.kn) : Cur d ρ β0 s00 w0 ds tm s2 a w := by
  obtain ⟨⟨β, h1, h2, h3⟩, h4, h5⟩ := h
  exact ⟨⟨β, h1, h2.mask (fun j b hj => .inr (by rw [← e]; exact hj)) (by rw [hk]; exact hd.kn), h3.trans (ext_kn e β w)⟩, h4, h5⟩

end

end Go.Eng
end
