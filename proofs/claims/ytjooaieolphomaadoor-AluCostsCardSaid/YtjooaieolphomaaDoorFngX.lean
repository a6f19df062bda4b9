/-
  A symbolic executor, part X: rows of a length that is not known: what is written, cut, appended, copied, made.
-/
import Derived.Test.YtjooaieolphomaaDoorFngW
import Derived.Laws.IdiomCopy
import Derived.Laws.MakeOwn
set_option linter.unusedVariables false
set_option linter.unusedSimpArgs false
namespace Go.Eng

/-! ### a block of one's own, written anew -/

theorem Sat.reset {ρ : Env} {β : Bt} {s : St} {w : World} (hs : Sat ρ β s w) {j : Nat} {b b' : SBlk} {old cur : Array Value} {e : TypeId} (hj : s.bl[j]? = some b) (ho : b.occ (β j).2.1 = true) (ho' : b'.occ (β j).2.1 = true)
    (hheap : w.heap[(β j).1]? = some (.cells old e (0, 0))) (hg : blkOk ρ β (β j).2.1 b' (some (.cells cur e (0, 0)))) :
    Sat ρ β { s with bl := s.bl.set j b' } (w.setRow (β j).1 cur) ∧ Ext s { s with bl := s.bl.set j b' } β β w (w.setRow (β j).1 cur) := by
  have hlive : live β s j := ⟨b, hj, ho⟩
  have hls : ∀ i, live β { s with bl := s.bl.set j b' } i ↔ live β s i := live_set hj (ho'.trans ho.symm)
  have hw : ∀ b, b ≠ (β j).1 → (w.setRow (β j).1 cur).heap[b]? = w.heap[b]? := fun b hb => setRow_other w _ b _ hb
  have hx : Ext s { s with bl := s.bl.set j b' } β β w (w.setRow (β j).1 cur) := by
    refine ⟨fun _ _ => rfl, fun i _ hl => (hls i).1 hl, ?_, by simp [World.setRow], ?_, by simp, rfl, rfl, rfl⟩
    · intro i hi hl
      have := live_lt ((hls i).1 hl)
      omega
    · intro b hb hn
      exact hw b (fun e => hn j hlive e.symm)
  refine hs.mk' hx ?_ ?_ hs.kn
  · intro i b2 hi
    by_cases hij : j = i
    · subst hij
      have hlt := (List.getElem?_eq_some_iff.1 hj).1
      simp [hlt] at hi
      subst hi
      rw [setRow_heap w (β j).1 old cur e (0, 0) hheap]
      exact hg
    · rw [List.getElem?_set_ne hij] at hi
      refine blkOk_same (fun hocc => ?_) (hs.blk i b2 hi)
      exact hw _ (fun e => hij (hs.inj _ _ hlive ⟨_, hi, hocc⟩ e.symm))
  · intro a b ha hb
    exact hs.inj a b ((hls a).1 ha) ((hls b).1 hb)

/-! ### rows with one part turned -/

theorem rowV_split (cks : List CK) (c : Int) {n i : Nat} (h : i < n) :
    rowV cks c n = tabL (fun i => elemV cks (rdZ c i)) 0 i ++ elemV cks (rdZ c i) ++ tabL (fun i => elemV cks (rdZ c i)) (i + 1) (n - i - 1) := by
  unfold rowV
  obtain ⟨d, rfl⟩ : ∃ d, n = i + (1 + d) := ⟨n - i - 1, by omega⟩
  rw [tabL_append, tabL_append]
  simp only [tabL, List.append_nil, Nat.zero_add, List.append_assoc]
  rw [show i + (1 + d) - i - 1 = d by omega]

theorem list_mid {α : Type} (A B C v : List α) (f m : Nat) (hv : v.length = m) (hf : f + m ≤ B.length) :
    (A ++ B ++ C).take (A.length + f) ++ v ++ (A ++ B ++ C).drop (A.length + f + m) = A ++ (B.take f ++ v ++ B.drop (f + m)) ++ C := by
  have h1 : (A ++ B ++ C).take (A.length + f) = A ++ B.take f := by
    rw [List.append_assoc, List.take_append, List.take_of_length_le (by omega), Nat.add_sub_cancel_left, List.take_append_of_le_length (by omega)]
  have h2 : (A ++ B ++ C).drop (A.length + f + m) = B.drop (f + m) ++ C := by
    rw [List.append_assoc, List.drop_append, List.drop_of_length_le (by omega), List.nil_append, show A.length + f + m - A.length = f + m by omega, List.drop_append_of_le_length hf]
  rw [h1, h2]
  simp

theorem rowV_upd (cks : List CK) (c : Int) {n : Nat} {ix x' : Int} (h : ix.toNat < n) (v : List Value) (f : Nat) (hf : f + v.length ≤ cks.length) (tl : List Value)
    (hx : elemV cks x' = (elemV cks (rdZ c ix)).take f ++ v ++ (elemV cks (rdZ c ix)).drop (f + v.length)) :
    (rowV cks c n ++ tl).take (ix.toNat * cks.length + f) ++ v ++ (rowV cks c n ++ tl).drop (ix.toNat * cks.length + f + v.length) = rowV cks (updZ c ix x') n ++ tl := by
  rw [rowV_split cks c h, rowV_split cks (updZ c ix x') h]
  have e1 : tabL (fun i => elemV cks (rdZ (updZ c ix x') i)) 0 ix.toNat = tabL (fun i => elemV cks (rdZ c i)) 0 ix.toNat :=
    tabL_congr _ _ _ fun k hk => by
      simp only [Nat.zero_add]
      rw [rdZ_upd, if_neg (by rw [Int.toNat_natCast]; omega)]
  have e2 : tabL (fun i => elemV cks (rdZ (updZ c ix x') i)) (ix.toNat + 1) (n - ix.toNat - 1) = tabL (fun i => elemV cks (rdZ c i)) (ix.toNat + 1) (n - ix.toNat - 1) :=
    tabL_congr _ _ _ fun k hk => by
      show elemV cks (rdZ (updZ c ix x') _) = _
      rw [rdZ_upd, if_neg (by rw [Int.toNat_natCast]; omega)]
  have e3 : rdZ (updZ c ix x') (ix.toNat : Nat) = x' := by rw [rdZ_upd, if_pos (by rw [Int.toNat_natCast])]
  have hA : (tabL (fun i => elemV cks (rdZ c i)) 0 ix.toNat).length = ix.toNat * cks.length := tabL_len (fun _ => elemV_len _ _) _ _
  rw [e1, e2, e3, hx]
  have := list_mid (tabL (fun i => elemV cks (rdZ c i)) 0 ix.toNat) (elemV cks (rdZ c ix)) (tabL (fun i => elemV cks (rdZ c i)) (ix.toNat + 1) (n - ix.toNat - 1) ++ tl) v f v.length rfl (by rw [elemV_len]; exact hf)
  rw [hA] at this
  rw [rdZ_toNat]
  simp only [List.append_assoc] at this ⊢
  exact this

theorem oneV_ckV (k : CK) (x : Int) : oneV (ckV k x) = true := by cases k <;> rfl
theorem oneV_elemV (cks : List CK) (x : Int) : ∀ v ∈ elemV cks x, v.oneCell' = true := by
  have hF : ∀ (l : List CK) (f : Nat), ∀ v ∈ elemF x f l, v.oneCell' = true := by
    intro l
    induction l with
    | nil => intro f v hv; cases hv
    | cons k l ih =>
      intro f v hv
      rcases List.mem_cons.1 hv with rfl | hv
      · exact oneV_oneCell (oneV_ckV _ _)
      · exact ih _ v hv
  intro v hv
  unfold elemV at hv
  split at hv
  · rw [List.mem_singleton.1 hv]; exact oneV_oneCell (oneV_ckV _ _)
  · exact hF _ _ v hv

/-- the number of a part, of which some cells are new -/
def updsE (q : E) : Nat → List E → E
  | _, [] => q
  | f, x :: l => updsE (.f 14 q (.c f) x) (f + 1) l

theorem updsE_ev {cx : Cx} {ρ : Env} (hρ : EnvOk cx ρ) : ∀ (l : List E) (q : E) (f : Nat) (r : Nat), rdZ ((updsE q f l).ev ρ) r = if f ≤ r then (match l[r - f]? with | some e => e.ev ρ | none => rdZ (q.ev ρ) r) else rdZ (q.ev ρ) r
  | [], q, f, r => by simp [updsE]
  | x :: l, q, f, r => by
    simp only [updsE]
    rw [updsE_ev hρ l _ (f + 1) r]
    have hq : ((E.f 14 q (.c f) x).ev ρ) = updZ (q.ev ρ) f (x.ev ρ) := by
      simp only [E.ev, rho_f hρ (n := 14) (by omega) (by omega)]; rfl
    rw [hq, rdZ_upd, Int.toNat_natCast, Int.toNat_natCast]
    by_cases h1 : f + 1 ≤ r
    · rw [if_pos h1, if_neg (show ¬ r = f by omega), if_pos (show f ≤ r by omega)]
      rw [show r - f = (r - (f + 1)) + 1 by omega, List.getElem?_cons_succ]
    · rw [if_neg h1]
      by_cases h2 : f = r
      · subst h2; simp
      · rw [if_neg (by omega), if_neg (by omega)]

/-- what is put into a part -/
def newP (cx : Cx) (cks : List CK) (q0 : E) (f : Nat) (l : List SV) : Option E :=
  if f == 0 && l.length == cks.length then codeP cx cks l
  else match cks with
    | [_] => none
    | _ => if f + l.length ≤ cks.length then (codeL cx ((cks.drop f).take l.length) l).map (updsE q0 f) else none

theorem newP_ok {cx : Cx} {ρ : Env} (hρ : EnvOk cx ρ) (β : Bt) {cks : List CK} {q0 x : E} {f : Nat} {l : List SV} (h : newP cx cks q0 f l = some x) :
    f + l.length ≤ cks.length ∧ elemV cks (x.ev ρ) = (elemV cks (q0.ev ρ)).take f ++ SV.denL ρ β l ++ (elemV cks (q0.ev ρ)).drop (f + l.length) := by
  unfold newP at h
  split at h
  · rename_i hc
    simp only [Bool.and_eq_true, beq_iff_eq] at hc
    obtain ⟨rfl, hl⟩ := hc
    refine ⟨by omega, ?_⟩
    rw [← codeP_den hρ β h, List.take_zero, List.nil_append, List.drop_of_length_le (by rw [elemV_len]; omega), List.append_nil]
  · split at h
    · cases h
    · rename_i hn
      split at h
      · rename_i hfl
        obtain ⟨es, hes, rfl⟩ := Option.map_eq_some_iff.1 h
        obtain ⟨g1, g2, g3⟩ := codeL_den hρ β hes
        have gl : ((cks.drop f).take l.length).length = l.length := by simp; omega
        rw [gl] at g2
        refine ⟨hfl, ?_⟩
        have hE : ∀ y : Int, elemV cks y = elemF y 0 cks := by
          intro y
          unfold elemV
          split
          · exact absurd rfl (hn _)
          · rfl
        rw [hE, hE]
        apply List.ext_getElem?
        intro r
        rw [elemF_get, Nat.zero_add]
        have hlen : (elemF (q0.ev ρ) 0 cks).length = cks.length := elemF_len _ _ _
        have h3 : (List.take f (elemF (q0.ev ρ) 0 cks)).length = f := by simp [hlen]; omega
        rw [List.append_assoc, List.getElem?_append]
        rw [h3]
        by_cases h1 : r < f
        · rw [if_pos h1, List.getElem?_take, if_pos h1, elemF_get, Nat.zero_add]
          rw [updsE_ev hρ, if_neg (by omega)]
        · rw [if_neg h1, List.getElem?_append, denL_length]
          by_cases h2 : r - f < l.length
          · rw [if_pos h2]
            have hk : cks[r]? = some cks[r] := List.getElem?_eq_getElem (by omega)
            have hk' : ((cks.drop f).take l.length)[r - f]? = some cks[r] := by
              rw [List.getElem?_take, if_pos h2, List.getElem?_drop, show f + (r - f) = r by omega]; exact hk
            rw [g3 _ _ hk', hk, updsE_ev hρ, if_pos (by omega), List.getElem?_eq_getElem (by omega : r - f < es.length)]
            rfl
          · rw [if_neg h2, List.getElem?_drop, elemF_get, Nat.zero_add, show f + l.length + (r - f - l.length) = r by omega]
            rw [updsE_ev hρ, if_pos (by omega), List.getElem?_eq_none (by omega : es.length ≤ r - f)]
      · cases h

/-! ### what is written -/

def setLL (l : List SV) (base : Nat) (m : List SV) : List SV := l.take base ++ m ++ l.drop (base + m.length)

def rowCells (cx : Cx) (k : CK) (q : E) (len : Nat) : List SV := (List.range len).map fun (r : Nat) => ckS cx k (E.rdA q (.c r))

def storeT (cx : Cx) (t : TypeId) (x v : SV) (s : St) : T St :=
  match x with
  | .ep (.own j) z i f =>
    (match s.bl[j]?, v.cells, szT cx t with
    | some (.arr cks e q n), some l, some m =>
      if cks.length == z && l.length == m && decide (0 < z) then
        (match newP cx cks (E.rdA q i) f l with
        | some x' => obl s (leE cx (.c 0) i) fun s => obl s (ltE cx i n) fun s => .leaf { s with bl := s.bl.set j (.arr cks e (.f 14 q i x') n) }
        | none => .bad 220)
      else .bad 221
    | _, _, _ => .bad 222)
  | .cp j base 1 len i =>
    (match s.bl[j]?, s.cellN j base len, szT cx t with
    | some (.cells L e o), some l, some 1 => (match gather cx l with
      | some (k, q) => (match codeOf cx k v with
        | some x => obl s (leE cx (.c 0) i) fun s => obl s (ltE cx i (.c len)) fun s => .leaf { s with bl := s.bl.set j (.cells (setLL L base (rowCells cx k (.f 14 q i x) len)) e o) }
        | none => .bad 223)
      | none => .bad 224)
    | _, _, _ => .bad 225)
  | x => (match storeS cx t x v s with
    | some s' => .leaf s'
    | none => .bad 226)

theorem cellN_drop {s : St} {j : Nat} {L : List SV} {e : TypeId} {o : Option Nat} (hj : s.bl[j]? = some (.cells L e o)) : ∀ (n off : Nat) {l : List SV}, s.cellN j off n = some l → l = (L.drop off).take n ∧ off + n ≤ max off L.length
  | 0, off, l, h => by simp [St.cellN] at h; subst h; simp; omega
  | n + 1, off, l, h => by
    simp only [St.cellN] at h
    split at h
    · rename_i x m hx hm
      cases h
      obtain ⟨ih1, ih2⟩ := cellN_drop hj n (off + 1) hm
      simp only [St.cell, hj] at hx
      have hlt := (List.getElem?_eq_some_iff.1 hx).1
      refine ⟨?_, by omega⟩
      rw [List.drop_eq_getElem_cons hlt, List.take_succ_cons, ← ih1]
      rw [List.getElem?_eq_getElem hlt] at hx
      cases hx; rfl
    · cases h

section
variable {cx : Cx} {ρ : Env} (hρ : EnvOk cx ρ) {β : Bt} {s s' : St} {w : World}
include hρ

theorem storeT_ok (hs : Sat ρ β s w) {t : TypeId} {X v : SV} (h : (storeT cx t X v s).sel ρ = some s') :
    ∃ w', (Instr.storeAt t (X.den ρ β) (v.den ρ β)).run cx.P w = .ok () w' ∧ Sat ρ β s' w' ∧ Ext s s' β β w w' := by
  unfold storeT at h
  split at h
  · rename_i j z i f
    split at h
    · rename_i cks e q n l m hj hl hm
      split at h
      · rename_i hc
        simp only [Bool.and_eq_true, beq_iff_eq, decide_eq_true_eq] at hc
        obtain ⟨⟨hz, hlm⟩, hz0⟩ := hc
        split at h
        · rename_i x' hx'
          obtain ⟨s1, e1, hs1, h1, h⟩ := obl_ok hs h
          obtain ⟨s2, e2, hs2, h2, h⟩ := obl_ok hs1 h
          cases h
          have g1 := leE_ne hρ h1
          have g2 := ltE_ne hρ h2
          simp only [E.ev] at g1
          obtain ⟨hfl, hel⟩ := newP_ok hρ β hx'
          have e12 : s2.bl = s.bl := e2.trans e1
          have hj2 : s2.bl[j]? = some (.arr cks e q n) := by rw [e12]; exact hj
          rcases hs2.blk j _ hj2 with ⟨_, h0⟩ | ⟨tl, hq, hheap, hlen, hmax⟩
          · omega
          · have hin : (i.ev ρ).toNat < (n.ev ρ).toNat := by omega
            have hup := rowV_upd cks (q.ev ρ) hin (SV.denL ρ β l) f (by simpa using hfl) tl (by rw [denL_length, hel, E.rdA_ev hρ])
            rw [denL_length, hlm] at hup
            have hfit : (i.ev ρ).toNat * z + f + l.length ≤ (rowV cks (q.ev ρ) (n.ev ρ).toNat ++ tl).toArray.size := by
              simp only [List.size_toArray, List.length_append, rowV_len, hz]
              have : (i.ev ρ).toNat * z + z ≤ (n.ev ρ).toNat * z := by
                rw [← Nat.succ_mul]; exact Nat.mul_le_mul_right _ hin
              omega
            obtain ⟨hcl, hone⟩ := SV.cells_den hρ β hl
            have hst := run_storeCells_at cx.P (β j).1 ((i.ev ρ).toNat * z + f) e (SV.denL ρ β l) 0 _ w hheap (by simpa using hfit) (by
              intro u hu
              rw [denL_map] at hu
              obtain ⟨y, hy, rfl⟩ := List.mem_map.1 hu
              exact oneV_oneCell (SV.one_den hρ β (List.all_eq_true.1 hone y hy)))
            simp only [Nat.add_zero, denL_length] at hst
            rw [hlm, ← hz] at hst
            rw [hup] at hst
            have hq' : (E.f 14 q i x').ev ρ = updZ (q.ev ρ) (i.ev ρ) (x'.ev ρ) := by
              simp only [E.ev, rho_f hρ (n := 14) (by omega) (by omega)]; rfl
            obtain ⟨r1, r2⟩ := hs2.reset (b' := .arr cks e (.f 14 q i x') n) (cur := (rowV cks (updZ (q.ev ρ) (i.ev ρ) (x'.ev ρ)) (n.ev ρ).toNat ++ tl).toArray) hj2 (by simp [SBlk.occ, hq]) (by simp [SBlk.occ, hq]) hheap
              (.inr ⟨tl, hq, by rw [hq'], by rw [hq']; simpa [rowV_len] using hlen, hmax⟩)
            refine ⟨_, ?_, r1, (ext_kn2 e12 β w).trans r2⟩
            rw [ep_den ρ β (.own j) z i f (a := ⟨(β j).1, 0, none⟩) (by simp only [bsAddr]; rw [if_neg (by omega)])]
            have hmm : (SV.denL ρ β l).length = m := by simp [hlm]
            simp only [Instr.storeAt, Instr.sureAddr, storeVar, hcl, Sem.run_bind, Sem.run_pure, Result.andThen_ok, run_sizeOf_of hm, addr_add, Nat.zero_add]
            simp only [List.size_toArray, hmm, ne_eq, not_true_eq_false, if_false]
            rw [← hz]
            exact hst
        · cases h
      · cases h
    · cases h
  · rename_i j base len i
    split at h
    · rename_i L e o l hj hl hm
      split at h
      · rename_i k q hg
        split at h
        · rename_i x hx
          obtain ⟨s1, e1, hs1, h1, h⟩ := obl_ok hs h
          obtain ⟨s2, e2, hs2, h2, h⟩ := obl_ok hs1 h
          cases h
          have g1 := leE_ne hρ h1
          have g2 := ltE_ne hρ h2
          simp only [E.ev] at g1 g2
          have e12 : s2.bl = s.bl := e2.trans e1
          have hj2 : s2.bl[j]? = some (.cells L e o) := by rw [e12]; exact hj
          obtain ⟨hl1, hl2⟩ := cellN_drop hj len base hl
          obtain ⟨hln, _⟩ := hs.cellN len base hl
          obtain ⟨tl, hheap, htl, hcap⟩ := hs2.blk j _ hj2
          have hbl : base + len ≤ L.length := by omega
          have hi : (i.ev ρ).toNat < len := by omega
          have hst := run_storeCells_at cx.P (β j).1 (base + (i.ev ρ).toNat) e [v.den ρ β] 0 _ w hheap (by simp; omega) (by
            intro u hu
            rw [List.mem_singleton.1 hu, codeOf_den hρ β hx]
            exact oneV_oneCell (oneV_ckV _ _))
          simp only [Nat.add_zero, List.length_singleton] at hst
          have hq' : (E.f 14 q i x).ev ρ = updZ (q.ev ρ) (i.ev ρ) (x.ev ρ) := by
            simp only [E.ev, rho_f hρ (n := 14) (by omega) (by omega)]; rfl
          have hlen' : (setLL L base (rowCells cx k (.f 14 q i x) len)).length = L.length := by simp [setLL, rowCells]; omega
          have hcur : (SV.denL ρ β L ++ tl).take (base + (i.ev ρ).toNat) ++ [v.den ρ β] ++ (SV.denL ρ β L ++ tl).drop (base + (i.ev ρ).toNat + 1) = SV.denL ρ β (setLL L base (rowCells cx k (.f 14 q i x) len)) ++ tl := by
            apply List.ext_getElem?
            intro r
            have hL : (SV.denL ρ β L).length = L.length := by simp
            have hold : ∀ r', r' < len → (SV.denL ρ β L)[base + r']? = some (ckV k (rdZ (q.ev ρ) r')) := by
              intro r' hr'
              have := gather_ok hρ β hg r' (by omega)
              rw [hl1, denL_get, List.getElem?_take, if_pos hr', List.getElem?_drop] at this
              rw [denL_get]; exact this
            have hnew : ∀ r', r' < len → (SV.denL ρ β (setLL L base (rowCells cx k (.f 14 q i x) len)))[base + r']? = some (ckV k (if r' = (i.ev ρ).toNat then x.ev ρ else rdZ (q.ev ρ) r')) := by
              intro r' hr'
              rw [denL_get]
              simp only [setLL]
              rw [List.append_assoc, List.getElem?_append_right (by simp; omega), List.getElem?_append_left (by simp [rowCells]; omega)]
              simp only [List.length_take, rowCells, List.getElem?_map]
              rw [show base + r' - min base L.length = r' by omega, List.getElem?_range hr']
              simp only [Option.map_some, ckS_den hρ, E.rdA_ev hρ, hq', rdZ_upd]
              simp only [E.ev, Int.toNat_natCast]
              rfl
            have hout : ∀ r', r' < base ∨ base + len ≤ r' → (SV.denL ρ β (setLL L base (rowCells cx k (.f 14 q i x) len)))[r']? = (SV.denL ρ β L)[r']? := by
              intro r' hr'
              rw [denL_get, denL_get]
              simp only [setLL]
              rcases hr' with hr' | hr'
              · rw [List.append_assoc, List.getElem?_append_left (by simp; omega), List.getElem?_take, if_pos hr']
              · rw [List.getElem?_append_right (by simp [rowCells]; omega), List.getElem?_drop]
                congr 2
                simp [rowCells]; omega
            by_cases hr : r < L.length
            · rw [List.getElem?_append_left (l₁ := SV.denL ρ β (setLL L base (rowCells cx k (.f 14 q i x) len))) (by rw [denL_length, hlen']; exact hr)]
              have hlhs : ((SV.denL ρ β L ++ tl).take (base + (i.ev ρ).toNat) ++ [v.den ρ β] ++ (SV.denL ρ β L ++ tl).drop (base + (i.ev ρ).toNat + 1))[r]? = if r = base + (i.ev ρ).toNat then some (v.den ρ β) else (SV.denL ρ β L)[r]? := by
                have ht : (List.take (base + (i.ev ρ).toNat) (SV.denL ρ β L ++ tl)).length = base + (i.ev ρ).toNat := by simp; omega
                rcases Nat.lt_trichotomy r (base + (i.ev ρ).toNat) with h1 | h1 | h1
                · rw [if_neg (by omega), List.append_assoc, List.getElem?_append_left (by omega), List.getElem?_take, if_pos h1, List.getElem?_append_left (by omega)]
                · rw [if_pos h1, List.append_assoc, List.getElem?_append_right (by omega), ht, h1]; simp
                · rw [if_neg (by omega), List.getElem?_append_right (by simp; omega), List.getElem?_drop]
                  simp only [List.length_append, ht, List.length_singleton]
                  rw [show base + (i.ev ρ).toNat + 1 + (r - (base + (i.ev ρ).toNat + 1)) = r by omega, List.getElem?_append_left (by omega)]
              rw [hlhs]
              by_cases hr2 : base ≤ r ∧ r < base + len
              · obtain ⟨r', rfl⟩ : ∃ r', r = base + r' := ⟨r - base, by omega⟩
                rw [hnew r' (by omega)]
                by_cases hr3 : r' = (i.ev ρ).toNat
                · rw [if_pos (by omega), if_pos hr3, codeOf_den hρ β hx]
                · rw [if_neg (by omega), if_neg hr3, hold r' (by omega)]
              · rw [if_neg (by omega), hout r (by omega)]
            · rw [List.getElem?_append_right (l₁ := SV.denL ρ β (setLL L base (rowCells cx k (.f 14 q i x) len))) (by rw [denL_length, hlen']; omega), denL_length, hlen']
              rw [List.getElem?_append_right (by simp; omega), List.getElem?_drop]
              simp only [List.length_append, List.length_take, List.length_singleton, hL]
              rw [show base + (i.ev ρ).toNat + 1 + (r - (min (base + (i.ev ρ).toNat) (L.length + tl.length) + 1)) = r by omega, List.getElem?_append_right (by omega), hL]
          obtain ⟨r1, r2⟩ := hs2.reset (b' := .cells (setLL L base (rowCells cx k (.f 14 q i x) len)) e o) (cur := (SV.denL ρ β (setLL L base (rowCells cx k (.f 14 q i x) len)) ++ tl).toArray) hj2 rfl rfl hheap
            ⟨tl, rfl, htl, fun sz hsz => by have := hcap sz hsz; simpa [hlen'] using this⟩
          refine ⟨_, ?_, r1, (ext_kn2 e12 β w).trans r2⟩
          have hcl : (v.den ρ β).cells = #[v.den ρ β] := by
            rw [codeOf_den hρ β hx]
            cases k <;> rfl
          rw [hcur] at hst
          simp only [SV.den, Instr.storeAt, Instr.sureAddr, storeVar, hcl, Sem.run_bind, Sem.run_pure, Result.andThen_ok, run_sizeOf_of hm, Nat.mul_one]
          simpa using hst
        · cases h
      · cases h
    · cases h
  · split at h
    · rename_i s2 h2
      cases h
      obtain ⟨w', a1, a2, a3, _⟩ := storeS_ok hρ hs h2
      exact ⟨w', a1, a2, a3⟩
    · cases h

end

end Go.Eng
