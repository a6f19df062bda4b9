/-
  A symbolic executor, part Z: rows that are made, that are copied; letters of texts; equality of whatever may be held against each other.
-/
import Derived.Test.YtjooaieolphomaaDoorFngY
set_option linter.unusedVariables false
set_option linter.unusedSimpArgs false
namespace Go.Eng

/-! ### rows of noughts -/

def zeroP : CK → SV → Bool
  | .int k, .int k' (.c n) => decide (k = k') && n == 0
  | .bool, .bool (.c n) => n == 0
  | .str, .lit (.string b) => b.size == 0
  | _, _ => false
def zeroPL : List CK → List SV → Bool
  | [], [] => true
  | k :: l, x :: m => zeroP k x && zeroPL l m
  | _, _ => false

theorem strOf_nil : strOf 0 = ⟨#[]⟩ := by
  have hl : slenZ 0 = 0 := by unfold slenZ strMax; rw [rdZ_nil]; simp
  unfold strOf
  rw [hl]; rfl
theorem zeroP_den {ρ : Env} {β : Bt} {k : CK} {x : SV} (h : zeroP k x = true) : x.den ρ β = ckV k 0 := by
  unfold zeroP at h
  split at h
  · simp at h; obtain ⟨rfl, rfl⟩ := h
    simp only [SV.den, ckV, E.ev]
    rename_i k
    cases k <;> rfl
  · simp at h; subst h; rfl
  · rename_i b
    simp at h
    simp only [SV.den, ckV, strOf_nil]
    obtain ⟨⟨l⟩⟩ := b
    have : l = [] := by
      have h2 : (ByteArray.mk ⟨l⟩).size = 0 := by rw [h]; rfl
      exact List.length_eq_zero_iff.1 h2
    subst this; rfl
  · cases h
theorem zeroPL_den {ρ : Env} {β : Bt} : ∀ {l : List CK} {m : List SV} (f : Nat), zeroPL l m = true → SV.denL ρ β m = elemF 0 f l
  | [], [], f, _ => rfl
  | k :: l, x :: m, f, h => by
    simp only [zeroPL, Bool.and_eq_true] at h
    simp only [SV.denL, elemF, rdZ_nil, zeroP_den h.1, zeroPL_den (f + 1) h.2]
  | [], _ :: _, _, h => by cases h
  | _ :: _, [], _, h => by cases h
theorem elemV_zero (cks : List CK) : elemV cks 0 = elemF 0 0 cks := by
  unfold elemV
  split
  · simp [elemF, rdZ_nil]
  · rfl

/-- a block more, in a world with just that more -/
theorem Sat.laidW {ρ : Env} {β : Bt} {s : St} {w w' : World} (hs : Sat ρ β s w) {b : SBlk} {o : Obj} {q : Nat} (hsc : s.sc s.bl.length = true) (hl : b.sc s.bl.length = true) (hg : blkOk ρ β q b (some o))
    (hw : w'.heap = w.heap.push o) (h1 : w'.os = w.os) (h2 : w'.tape = w.tape) (h3 : w'.output = w.output) :
    Sat ρ (bnew β s.bl.length w.heap.size q) (s.pushB b) w' ∧ Ext s (s.pushB b) β (bnew β s.bl.length w.heap.size q) w w' := by
  have hold : ∀ b, b < w.heap.size → w'.heap[b]? = w.heap[b]? := by
    intro b hb
    rw [hw, Array.getElem?_push, if_neg (by omega)]
  have hs2 : Sat ρ β s w' := hs.other (fun i hi => hold _ (hs.lt hi)) (fun k a i x ha hi => hold _ (hs.roLt ha hi))
  have hgg : w'.heap[w.heap.size]? = some o := by rw [hw]; simp
  have hag : ∀ j, j < s.bl.length → bnew β s.bl.length w.heap.size q j = β j := fun j hj => by unfold bnew; rw [if_neg (by omega)]
  refine ⟨hs2.pushB hsc hl (by rw [hgg]; exact hg) (fun _ i hi he => by have := hs.lt hi; omega) (fun _ k a i x ha hi he => by have := hs.roLt ha hi; omega), ?_⟩
  refine ⟨hag, fun j hj hl => ?_, fun j hj hl => ?_, by rw [hw]; simp, fun b hb _ => hold b hb, by simp [St.pushB], h1, h2, h3⟩
  · rcases live_pushB hl with hl | ⟨rfl, _⟩
    · exact live_ag (hag j hj) hl
    · omega
  · rcases live_pushB hl with hl | ⟨rfl, _⟩
    · have := live_lt hl; omega
    · exact .inl (by simp [bnew])

def makeT (cx : Cx) (cks : List CK) (t : TypeId) (l c : SV) (s : St) : R :=
  match cx.und t, l, c with
  | some (.slice e), .int _ n, .int _ n' => (match cx.inf e with
    | some i => (match i.zero with
      | some zv => (match (toS zv).cells with
        | some zs =>
          if n.beq n' && zeroPL cks zs && (cks.length == i.size) && decide (0 < i.size) && decide (i.bytes ≤ 1000000) && s.sc s.bl.length then
            obl s (leE cx (.c 0) n) fun s => obl s (leE cx n (.c 1000000)) fun s => ret (s.pushB (.arr cks e (.c 0) n)) (.sl (.own s.bl.length) cks.length (.c 0) n (some n))
          else .bad 260
        | none => .bad 261)
      | none => .bad 262)
    | none => .bad 263)
  | _, _, _ => .bad 264

section
variable {cx : Cx} {ρ : Env} (hρ : EnvOk cx ρ) {β : Bt} {s s' : St} {w : World}
include hρ

theorem makeT_ok {cks : List CK} {t : TypeId} {l c v : SV} (hs : Sat ρ β s w) (h : (makeT cx cks t l c s).sel ρ = some (v, s')) :
    ∃ β' w', (Instr.makeSlice t (l.den ρ β) (c.den ρ β)).run cx.P w = .ok (v.den ρ β') w' ∧ Sat ρ β' s' w' ∧ Ext s s' β β' w w' := by
  unfold makeT at h
  split at h
  case h_2 => cases h
  rename_i e kl n kc n' hu
  split at h
  case h_2 => cases h
  rename_i i hi
  split at h
  case h_2 => cases h
  rename_i zv hz
  split at h
  case h_2 => cases h
  rename_i zs hzs
  split at h
  case isFalse => cases h
  rename_i hc
  simp only [Bool.and_eq_true, decide_eq_true_eq, beq_iff_eq] at hc
  obtain ⟨⟨⟨⟨⟨hn, hzp⟩, hck⟩, hsz⟩, hby⟩, hsc⟩ := hc
  have hn := E.eq_of_beq hn
  subst hn
  obtain ⟨s1, e1, hs1, h1, hA⟩ := obl_ok hs h
  obtain ⟨s2, e2, hs2, h2, hB⟩ := obl_ok hs1 hA
  cases hB
  have g1 := leE_ne hρ h1
  have g2 := leE_ne hρ h2
  simp only [E.ev] at g1 g2
  have e12 : s2.bl = s.bl := e2.trans e1
  have hr := run_make (P := cx.P) w t e i zv (cx.undOk _ _ hu) (cx.infOk _ _ hi) hz kl kc (n.ev ρ) (n.ev ρ) g1 (Int.le_refl _) (by
    have : (i.bytes : Int) * n.ev ρ ≤ 1000000 * 1000000 := Int.mul_le_mul (by omega) g2 g1 (by omega)
    omega) (by omega)
  have hzc : zv.cells = (elemV cks 0).toArray := by
    have := (SV.cells_den hρ β hzs).1
    rw [toS_den] at this
    rw [this, zeroPL_den 0 hzp, elemV_zero]
  have hcells : madeCells zv.cells ((n.ev ρ).toNat * i.size) = (rowV cks 0 (n.ev ρ).toNat ++ []).toArray := by
    rw [List.append_nil]
    apply Array.ext'
    apply List.ext_getElem?
    intro r
    have hlen : (rowV cks 0 (n.ev ρ).toNat).length = (n.ev ρ).toNat * i.size := by rw [rowV_len, hck]
    by_cases hr : r < (n.ev ρ).toNat * i.size
    · have hk1 : r / i.size < (n.ev ρ).toNat := Nat.div_lt_of_lt_mul (by rw [Nat.mul_comm]; exact hr)
      have hr1 : r % i.size < i.size := Nat.mod_lt _ hsz
      have hii : r = r / i.size * cks.length + r % i.size := by rw [hck, Nat.mul_comm]; exact (Nat.div_add_mod _ _).symm
      have hrow := rowV_get cks 0 (n := (n.ev ρ).toNat) (k := r / i.size) (r := r % i.size) hk1 (by omega)
      rw [← hii, rdZ_nil] at hrow
      show _ = (rowV cks 0 (n.ev ρ).toNat)[r]?
      rw [hrow]
      have hsz2 : zv.cells.size = i.size := by rw [hzc]; simp [elemV_len, hck]
      simp only [madeCells, Array.toList_map, Array.toList_range, List.getElem?_map, List.getElem?_range hr, Option.map_some, hsz2]
      rw [hzc]
      have hlt : r % i.size < (elemV cks 0).length := by rw [elemV_len, hck]; exact hr1
      rw [List.getElem?_eq_getElem hlt]
      simp [hlt]
    · have h1 : (madeCells zv.cells ((n.ev ρ).toNat * i.size)).toList.length ≤ r := by simp [size_madeCells]; omega
      rw [List.getElem?_eq_none h1]
      show none = (rowV cks 0 (n.ev ρ).toNat)[r]?
      rw [List.getElem?_eq_none (by rw [hlen]; omega)]
  obtain ⟨l1, l2⟩ := hs2.laidW (w' := w.alloc (.cells (madeCells zv.cells ((n.ev ρ).toNat * i.size)) e)) (b := .arr cks e (.c 0) n) (q := (n.ev ρ).toNat + 1) (sc_bl e12 (by rw [e12]; exact hsc)) rfl (by
    refine .inr ⟨[], by omega, by rw [hcells]; rfl, by simp [rowV_len], ?_⟩
    unfold maxLen; omega) rfl rfl rfl rfl
  refine ⟨_, _, ?_, l1, (ext_kn2 e12 β w).trans l2⟩
  simp only [SV.den, hr, bnew, if_true, E.ev]
  rw [if_neg (by omega)]
  simp

end

/-! ### copies -/

/-- the same row under another number -/
theorem Sat.recode {ρ : Env} {β : Bt} {s : St} {w : World} (hs : Sat ρ β s w) {j : Nat} {cks : List CK} {e : TypeId} {q n q' : E} (hj : s.bl[j]? = some (.arr cks e q n))
    (h : rowV cks (q'.ev ρ) (n.ev ρ).toNat = rowV cks (q.ev ρ) (n.ev ρ).toNat) : Sat ρ β { s with bl := s.bl.set j (.arr cks e q' n) } w ∧ Ext s { s with bl := s.bl.set j (.arr cks e q' n) } β β w w := by
  have hls : ∀ i, live β { s with bl := s.bl.set j (.arr cks e q' n) } i ↔ live β s i := live_set hj rfl
  have hx : Ext s { s with bl := s.bl.set j (.arr cks e q' n) } β β w w :=
    ⟨fun _ _ => rfl, fun i _ hl => (hls i).1 hl, fun i hi hl => absurd (live_lt ((hls i).1 hl)) (by omega), Nat.le_refl _, fun _ _ _ => rfl, by simp, rfl, rfl, rfl⟩
  refine hs.mk' hx ?_ (fun a b ha hb => hs.inj a b ((hls a).1 ha) ((hls b).1 hb)) hs.kn
  intro i b hi
  by_cases hij : j = i
  · subst hij
    have hlt := (List.getElem?_eq_some_iff.1 hj).1
    simp [hlt] at hi
    subst hi
    have := hs.blk j _ hj
    simp only [blkOk] at this ⊢
    rw [h]; exact this
  · rw [List.getElem?_set_ne hij] at hi
    exact hs.blk i b hi

/-- what a row holds behind a copy to its beginning -/
def copyQ (m n q d soff : E) : E := if m.beq n then dropE d soff else .f 16 (dropE d soff) m (dropE q m)
def copyM (cx : Cx) (slen len : E) : E := if slen.beq len then len else E.b' cx .min .i64 slen len

def copyT (cx : Cx) (ats : Array TypeId) (x y : SV) (s : St) : R :=
  match ats.toList, x, y with
  | [t, _], .sl (.own j) z off len _, .sl b z' soff slen _ =>
    (match cx.und t, s.bl[j]?, rowOf cx s b with
    | some (.slice el), some (.arr cks e q n), some (cks', d, sn) =>
      if szT cx el = some 1 && isZero off && decide (cks' = cks) && (cks.length == 1) && lo0 (soff.iv cx) && z == 1 && z' == 1 then
        obl s (leE cx (.c 0) len) fun s => obl s (leE cx (.c 0) slen) fun s => obl s (leE cx len n) fun s => obl s (leE cx (addE soff slen) sn) fun s =>
          .leaf (.int .i64 (copyM cx slen len), { s with bl := s.bl.set j (.arr cks e (copyQ (copyM cx slen len) n q d soff) n) })
      else .bad 270
    | _, _, _ => .bad 271)
  | _, _, _ => .bad 272

section
variable {cx : Cx} {ρ : Env} (hρ : EnvOk cx ρ) {β : Bt} {s s' : St} {w : World}
include hρ

theorem copyT_ok {ats : Array TypeId} {ty : TypeId} {x y v : SV} (hs : Sat ρ β s w) (h : (copyT cx ats x y s).sel ρ = some (v, s')) :
    ∃ w', (Builtin.copy_ ats ty #[x.den ρ β, y.den ρ β]).run cx.P w = .ok (v.den ρ β) w' ∧ Sat ρ β s' w' ∧ Ext s s' β β w w' := by
  unfold copyT at h
  split at h
  case h_2 => cases h
  rename_i t t' j z off len cap b z' soff slen scap hats
  split at h
  case h_2 => cases h
  rename_i el cks e q n cks' d sn hu hj hrow
  split at h
  case isFalse => cases h
  rename_i hc
  simp only [Bool.and_eq_true, decide_eq_true_eq, beq_iff_eq] at hc
  obtain ⟨⟨⟨⟨⟨⟨hsz, hoff⟩, rfl⟩, hck⟩, hsoff⟩, rfl⟩, rfl⟩ := hc
  have hoff := isZero_ok hoff
  subst hoff
  obtain ⟨s1, e1, hs1, h1, hA⟩ := obl_ok hs h
  obtain ⟨s2, e2, hs2, h2, hB⟩ := obl_ok hs1 hA
  obtain ⟨s3, e3, hs3, h3, hC⟩ := obl_ok hs2 hB
  obtain ⟨s4, e4, hs4, h4, hD⟩ := obl_ok hs3 hC
  clear h hA hB hC
  have g1 := leE_ne hρ h1
  have g2 := leE_ne hρ h2
  have g3 := leE_ne hρ h3
  have g4 := leE_ne hρ h4
  have g0 := lo0_ok hsoff (E.iv_ok hρ soff)
  rw [addE_ev] at g4
  simp only [E.ev] at g1 g2
  have e14 : s4.bl = s.bl := e4.trans (e3.trans (e2.trans e1))
  have hats' : ats = #[t, t'] := by apply Array.ext'; simpa using hats
  subst hats'
  have hm : (copyM cx slen len).ev ρ = if slen.ev ρ < len.ev ρ then slen.ev ρ else len.ev ρ := by
    unfold copyM
    split
    · rename_i hb; have := E.eq_of_beq hb; subst this; simp
    · rw [E.b'_ev hρ]; simp only [BO.ev]; split <;> split <;> omega
  generalize copyM cx slen len = m at hm hD
  generalize hq' : copyQ m n q d soff = q' at hD
  simp only [T.sel, Option.some.injEq, Prod.mk.injEq] at hD
  obtain ⟨rfl, rfl⟩ := hD
  have hm0 : 0 ≤ m.ev ρ := by rw [hm]; split <;> omega
  have hmM : (m.ev ρ).toNat = Nat.min (slen.ev ρ).toNat (len.ev ρ).toNat := by
    rw [hm]
    show _ = min _ _
    split <;> omega
  have hmn : (m.ev ρ).toNat ≤ (n.ev ρ).toNat := by rw [hm]; split <;> omega
  -- the new content
  have hrd : ∀ i : Nat, i < (n.ev ρ).toNat → rdZ (q'.ev ρ) i = if i < (m.ev ρ).toNat then rdZ (d.ev ρ) (((soff.ev ρ).toNat + i : Nat) : Int) else rdZ (q.ev ρ) i := by
    intro i hi
    rw [← hq']
    unfold copyQ
    split
    · rename_i hb
      have := E.eq_of_beq hb
      rw [dropE_ev hρ, if_pos (by rw [this]; exact hi)]
    · have : ((E.f 16 (dropE d soff) m (dropE q m)).ev ρ) = appZ ((dropE d soff).ev ρ) (m.ev ρ) ((dropE q m).ev ρ) := by
        simp only [E.ev, rho_f hρ (n := 16) (by omega) (by omega)]; rfl
      rw [this, rdZ_app, Int.toNat_natCast]
      split
      · rw [dropE_ev hρ]
      · rw [dropE_ev hρ]; congr 2; omega
  have hj4 : s4.bl[j]? = some (.arr cks' e q n) := by rw [e14]; exact hj
  have hsz1 : (cx.P.info? el).map (·.size) = some 1 := by
    obtain ⟨i, hi0, hi1⟩ := szT_info hsz
    rw [cx.infOk _ _ hi0]; simp [hi1]
  have hgo : ∀ k : Nat, goInt k = .int .i64 (k : Int) := fun k => rfl
  rcases Nat.eq_zero_or_pos (m.ev ρ).toNat with hM | hM
  · have hrow0 : rowV cks' (q'.ev ρ) (n.ev ρ).toNat = rowV cks' (q.ev ρ) (n.ev ρ).toNat := by
      unfold rowV
      refine tabL_congr _ _ _ fun k hk => ?_
      simp only [Nat.zero_add]
      rw [hrd k hk, if_neg (by omega)]
    obtain ⟨r1, r2⟩ := hs4.recode hj4 hrow0
    refine ⟨w, ?_, r1, (ext_kn2 e14 β w).trans r2⟩
    rw [sl_den, sl_den, run_copy_none (P := cx.P) w t t' ty el _ _ _ _ _ _ (cx.undOk _ _ hu) hsz1 (by rw [← hmM]; exact hM)]
    simp only [SV.den]
    rw [show m.ev ρ = 0 by omega]; rfl
  · rcases hs4.blk j _ hj4 with ⟨h0, hn0⟩ | ⟨tl, hq, hheap, hlen, hmax⟩
    · omega
    · obtain ⟨a, ha, _⟩ := row_cell hρ hs hrow (i := (soff.ev ρ).toNat) (by
        have hsl : 0 < slen.ev ρ := by
          rw [hm] at hM
          split at hM <;> omega
        omega)
      have hfirst : ∀ (c : Int), rowV cks' c (m.ev ρ).toNat = tabL (fun i => elemV cks' (rdZ c i)) 0 (m.ev ρ).toNat := fun c => rfl
      have hcsl : (tabL (fun i => elemV cks' (rdZ (q'.ev ρ) i)) 0 (m.ev ρ).toNat).length = (m.ev ρ).toNat := by rw [tabL_len (fun _ => elemV_len _ _), hck, Nat.mul_one]
      have hsrc : ∀ k u, (tabL (fun i => elemV cks' (rdZ (q'.ev ρ) i)) 0 (m.ev ρ).toNat)[k]? = some u → w.cell? ((a.add ((soff.ev ρ).toNat * 1)).add k) = some u := by
        intro k u hk
        have hkm : k < (m.ev ρ).toNat := by rw [← hcsl]; exact (List.getElem?_eq_some_iff.1 hk).1
        have hg := tabL_get (f := fun i => elemV cks' (rdZ (q'.ev ρ) i)) (z := 1) (fun _ => by rw [elemV_len, hck]) (m.ev ρ).toNat 0 k 0 hkm (by omega)
        simp only [Nat.mul_one, Nat.add_zero, Nat.zero_add] at hg
        rw [hg, hrd k (by omega), if_pos hkm] at hk
        obtain ⟨a2, ha2, hcell⟩ := row_cell hρ hs hrow (i := (soff.ev ρ).toNat + k) (by
          rw [hm] at hkm
          split at hkm <;> omega)
        rw [ha] at ha2
        cases ha2
        have := hcell 0 u hk
        rw [hck, Nat.mul_one, Nat.add_zero] at this
        rw [addr_add2, Nat.mul_one]
        exact this
      have hM' : (m.ev ρ).toNat = (m.ev ρ).toNat := rfl
      have hr := run_copy_row (P := cx.P) w t t' ty el (β j).1 0 (len.ev ρ).toNat (slCap ρ β (.own j) cap) (a.add ((soff.ev ρ).toNat * 1)) (slen.ev ρ).toNat (slCap ρ β b scap) _ e (tabL (fun i => elemV cks' (rdZ (q'.ev ρ) i)) 0 (m.ev ρ).toNat)
        (cx.undOk _ _ hu) hsz1 hheap (by rw [hcsl, hmM]) hsrc (by
          rw [hcsl]
          simp only [List.size_toArray, List.length_append, rowV_len, hck, Nat.mul_one]
          omega) (by
          intro u hu
          have : ∀ (n i0 : Nat), u ∈ tabL (fun i => elemV cks' (rdZ (q'.ev ρ) i)) i0 n → u.oneCell' = true := by
            intro n
            induction n with
            | zero => intro i0 h; simp [tabL] at h
            | succ n ih =>
              intro i0 h
              simp only [tabL, List.mem_append] at h
              rcases h with h | h
              · exact oneV_elemV _ _ u h
              · exact ih _ h
          exact this _ 0 hu)
      have hcur : (rowV cks' (q.ev ρ) (n.ev ρ).toNat ++ tl).take 0 ++ tabL (fun i => elemV cks' (rdZ (q'.ev ρ) i)) 0 (m.ev ρ).toNat ++ (rowV cks' (q.ev ρ) (n.ev ρ).toNat ++ tl).drop (0 + (tabL (fun i => elemV cks' (rdZ (q'.ev ρ) i)) 0 (m.ev ρ).toNat).length) = rowV cks' (q'.ev ρ) (n.ev ρ).toNat ++ tl := by
        rw [hcsl, List.take_zero, List.nil_append, Nat.zero_add, List.drop_append_of_le_length (by rw [rowV_len, hck, Nat.mul_one]; exact hmn), ← List.append_assoc]
        congr 1
        unfold rowV
        obtain ⟨d', hd'⟩ : ∃ d', (n.ev ρ).toNat = (m.ev ρ).toNat + d' := ⟨(n.ev ρ).toNat - (m.ev ρ).toNat, by omega⟩
        rw [hd', tabL_append, tabL_append]
        congr 1
        rw [List.drop_append, List.drop_of_length_le (by rw [tabL_len (fun _ => elemV_len _ _), hck, Nat.mul_one]; exact Nat.le_refl _), tabL_len (fun _ => elemV_len _ _), hck, Nat.mul_one, Nat.sub_self, List.drop_zero, List.nil_append]
        refine tabL_congr _ _ _ fun k hk => ?_
        show elemV cks' (rdZ (q.ev ρ) _) = elemV cks' (rdZ (q'.ev ρ) _)
        rw [hrd _ (by omega), if_neg (by omega)]
      obtain ⟨r1, r2⟩ := hs4.reset (b' := .arr cks' e q' n) (cur := (rowV cks' (q'.ev ρ) (n.ev ρ).toNat ++ tl).toArray) hj4 (by simp [SBlk.occ, hq]) (by simp [SBlk.occ, hq]) hheap
        (.inr ⟨tl, hq, rfl, by simpa [rowV_len] using hlen, hmax⟩)
      refine ⟨_, ?_, r1, (ext_kn2 e14 β w).trans r2⟩
      rw [sl_den, sl_den, ha]
      simp only [bsAddr, E.ev, Int.toNat_zero, Nat.zero_mul]
      rw [if_neg (by omega)]
      simp only [Option.map_some, addr_add, Nat.add_zero]
      rw [hr]
      have hcur' : (rowV cks' (q.ev ρ) (n.ev ρ).toNat ++ tl).toArray.toList = rowV cks' (q.ev ρ) (n.ev ρ).toNat ++ tl := rfl
      rw [hcur', hcur, hcsl]
      simp only [SV.den, goInt]
      rw [Int.toNat_of_nonneg hm0]

end

/-! ### letters of texts, parts of rows that are values -/

def indexT (cx : Cx) (t : TypeId) (x ix : SV) (s : St) : R :=
  match cx.und t, x, ix with
  | some .string, .str e, .int _ i => obl s (leE cx (.c 0) i) fun s => obl s (ltE cx i (.f 21 e (.c 0) (.c 0))) fun s => ret s (.int .u8 (.f 22 e i (.c 0)))
  | some (.array len el), .agg l, .int _ i =>
    (match constE i with
    | some _ => (match indexS cx t x ix with
      | some v => ret s v
      | none => .bad 280)
    | none => (match gather cx l with
      | some (k, q) => if szT cx el = some 1 && decide (isAggT cx el = some false) && l.length == len then
          obl s (leE cx (.c 0) i) fun s => obl s (ltE cx i (.c len)) fun s => ret s (ckS cx k (E.rdA q i)) else .bad 281
      | none => .bad 282))
  | _, _, _ => (match indexS cx t x ix with
    | some v => ret s v
    | none => .bad 283)

section
variable {cx : Cx} {ρ : Env} (hρ : EnvOk cx ρ) {β : Bt} {s s' : St} {w : World}
include hρ

theorem indexT_ok (hs : Sat ρ β s w) {t : TypeId} {X I v : SV} (h : (indexT cx t X I s).sel ρ = some (v, s')) : LookOk cx ρ β s s' w (Instr.index t (X.den ρ β) (I.den ρ β)) v := by
  unfold indexT at h
  split at h
  · rename_i e k i hu
    obtain ⟨s1, e1, hs1, h1, hA⟩ := obl_ok hs h
    obtain ⟨s2, e2, hs2, h2, hB⟩ := obl_ok hs1 hA
    cases hB
    have g1 := leE_ne hρ h1
    have g2 := ltE_ne hρ h2
    simp only [E.ev, rho_f hρ (n := 21) (by omega) (by omega), fL] at g1 g2
    refine ⟨?_, e2.trans e1, hs2⟩
    have hsz := strOf_size (e.ev ρ)
    have hget := strOf_get (e.ev ρ) (i.ev ρ).toNat (by omega)
    have hget2 : (strOf (e.ev ρ))[(i.ev ρ).toNat]? = some (UInt8.ofNat (sbyteZ (e.ev ρ) (i.ev ρ).toNat).toNat) := by
      have hlt : (i.ev ρ).toNat < (strOf (e.ev ρ)).size := by omega
      rw [← hget, getElem?_pos (strOf (e.ev ρ)) (i.ev ρ).toNat hlt, getElem?_pos (strOf (e.ev ρ)).data (i.ev ρ).toNat hlt]
      rfl
    have hb := sbyteZ_bd (e.ev ρ) (i.ev ρ)
    have hrd : sbyteZ (e.ev ρ) ((i.ev ρ).toNat : Nat) = sbyteZ (e.ev ρ) (i.ev ρ) := by unfold sbyteZ; rw [rdZ_toNat]
    simp only [SV.den, Instr.index, asIntOf, Sem.run_bind, Sem.run_pure, Result.andThen_ok, run_und hu, g1, if_true, hget2, hrd, E.ev, rho_f hρ (n := 22) (by omega) (by omega), fL]
    congr 2
    have : (UInt8.ofNat (sbyteZ (e.ev ρ) (i.ev ρ)).toNat).toNat = (sbyteZ (e.ev ρ) (i.ev ρ)).toNat % 256 := by simp
    rw [this]
    omega
  · rename_i len el l k i hu
    split at h
    · split at h
      · rename_i r hr; cases h; exact ⟨indexS_ok hr, rfl, hs⟩
      · cases h
    · split at h
      · rename_i ck q hg
        split at h
        · rename_i hc
          simp only [Bool.and_eq_true, decide_eq_true_eq, beq_iff_eq] at hc
          obtain ⟨⟨hz, ha⟩, hl⟩ := hc
          obtain ⟨s1, e1, hs1, h1, hA⟩ := obl_ok hs h
          obtain ⟨s2, e2, hs2, h2, hB⟩ := obl_ok hs1 hA
          cases hB
          have g1 := leE_ne hρ h1
          have g2 := ltE_ne hρ h2
          simp only [E.ev] at g1 g2
          refine ⟨?_, e2.trans e1, hs2⟩
          have hi : (i.ev ρ).toNat < l.length := by omega
          have hgv := gather_ok hρ β hg _ hi
          simp only [SV.den, Instr.index, asIntOf, Sem.run_bind, Sem.run_pure, Result.andThen_ok, run_und hu]
          rw [if_pos ⟨g1, g2⟩]
          simp only [Sem.run_bind, run_sizeOf_of hz, Result.andThen_ok, Nat.mul_one]
          rw [rdZ_toNat] at hgv
          rw [run_part_int ha (by simpa using hgv), ckS_den hρ, E.rdA_ev hρ]
        · cases h
      · cases h
  · split at h
    · rename_i r hr; cases h; exact ⟨indexS_ok hr, rfl, hs⟩
    · cases h

end

/-! ### two things held against each other -/

theorem nt_ne (r : E) (ρ : Env) : ((E.nt' r).ev ρ != 0) = !(r.ev ρ != 0) := by
  rw [E.nt'_ev, bool01_ne]; simp [bne]

def binT (cx : Cx) (op : BinOp) (xt : TypeId) (x y : SV) (s : St) : R :=
  match op, x, y with
  | .eql, .agg l, .agg m => (match cx.und xt with
    | some (.struct _) => (match cx.seq xt, eqS cx 8 xt (.agg l) (.agg m) with
      | true, some r => ret s (.bool r)
      | _, _ => .bad 290)
    | _ => binS cx op xt x y s)
  | .neq, .agg l, .agg m => (match cx.und xt with
    | some (.struct _) => (match cx.seq xt, eqS cx 8 xt (.agg l) (.agg m) with
      | true, some r => ret s (.bool (E.nt' r))
      | _, _ => .bad 290)
    | _ => binS cx op xt x y s)
  | op, x, y => (match cx.und xt, op with
    | some .string, .eql => (match eqS cx 1 xt x y with
      | some r => ret s (.bool r)
      | none => .bad 291)
    | some .string, .neq => (match eqS cx 1 xt x y with
      | some r => ret s (.bool (E.nt' r))
      | none => .bad 291)
    | _, _ => binS cx op xt x y s)

section
variable {cx : Cx} {ρ : Env} (hρ : EnvOk cx ρ) {β : Bt} {s s' : St} {w : World}
include hρ

theorem eqlT_ok {d : Nat} (hd : d ≤ 10000) {xt : TypeId} {x y : Operand} {X Y : SV} {r : E} (h : eqS cx d xt X Y = some r) (hg : ∀ op, (eqGuard op xt x y (X.den ρ β) (Y.den ρ β)).run cx.P w = .ok () w)
    (hb : binOp .eql xt (X.den ρ β) (Y.den ρ β) = (do let z ← Op.equal xt (X.den ρ β) (Y.den ρ β); pure (Value.bool z)) ∧ binOp .neq xt (X.den ρ β) (Y.den ρ β) = (do let z ← Op.equal xt (X.den ρ β) (Y.den ρ β); pure (Value.bool !z))) :
    BinOk cx .eql xt x y X Y ρ β w (.bool r) ∧ BinOk cx .neq xt x y X Y ρ β w (.bool (E.nt' r)) := by
  have he := eqS_ok hρ β d xt X Y r 10000 w h hd
  have he' : (Op.equal xt (X.den ρ β) (Y.den ρ β)).run cx.P w = .ok (r.ev ρ != 0) w := he
  constructor <;> unfold BinOk <;> simp only [Sem.run_bind, hg, Result.andThen_ok]
  · rw [hb.1]
    simp only [Sem.run_bind, he', Result.andThen_ok, Sem.run_pure, SV.den]
  · rw [hb.2]
    simp only [Sem.run_bind, he', Result.andThen_ok, Sem.run_pure, SV.den, nt_ne]

theorem binT_ok {op : BinOp} {xt : TypeId} {x y : Operand} {X Y v : SV} (hs : Sat ρ β s w) (h : (binT cx op xt X Y s).sel ρ = some (v, s')) : BinOk cx op xt x y X Y ρ β w v ∧ s'.bl = s.bl ∧ Sat ρ β s' w := by
  have aggs : ∀ {l m : List SV} {fs : Array Field} {r : E}, cx.und xt = some (.struct fs) → cx.seq xt = true → eqS cx 8 xt (.agg l) (.agg m) = some r →
      BinOk cx .eql xt x y (.agg l) (.agg m) ρ β w (.bool r) ∧ BinOk cx .neq xt x y (.agg l) (.agg m) ρ β w (.bool (E.nt' r)) := by
    intro l m fs r hu hq hr
    refine eqlT_ok hρ (by omega) hr (fun op => ?_) ⟨?_, ?_⟩
    · simp only [SV.den]; exact run_eqGuard_agg w op xt x y _ _ (cx.seqOk xt hq).1
    · rfl
    · rfl
  have strs : ∀ {r : E}, cx.und xt = some .string → eqS cx 1 xt X Y = some r → ∃ a b, X.den ρ β = .string a ∧ Y.den ρ β = .string b := by
    intro r hu hr
    simp only [eqS, hu] at hr
    split at hr
    · exact ⟨_, _, rfl, rfl⟩
    · split at hr
      · rename_i a b ha hb
        exact ⟨_, _, strE_den hρ β ha, strE_den hρ β hb⟩
      · cases hr
  have hstr : ∀ {r : E}, cx.und xt = some .string → eqS cx 1 xt X Y = some r → BinOk cx .eql xt x y X Y ρ β w (.bool r) ∧ BinOk cx .neq xt x y X Y ρ β w (.bool (E.nt' r)) := by
    intro r hu hr
    obtain ⟨a, b, ha, hb⟩ := strs hu hr
    have he := eqS_ok hρ β 1 xt X Y r 10000 w hr (by omega)
    rw [ha, hb, run_equalIn_string w 9999 xt _ _ (cx.undOk _ _ hu)] at he
    simp only [Result.ok.injEq, and_true] at he
    constructor <;> unfold BinOk <;> rw [ha, hb]
    · simp [eqGuard, binOp, Op.stringOp, SV.den, he]
    · have hh : (a.toList == b.toList) = (!(E.ev ρ r == 0)) := he
      simp only [eqGuard, binOp, Op.stringOp, SV.den, E.nt'_ev, bool01_ne, hh]
      simp
  unfold binT at h
  split at h
  · split at h
    · rename_i fs hu
      split at h
      · rename_i r hq hr
        cases h
        exact ⟨(aggs hu hq hr).1, rfl, hs⟩
      · cases h
    · exact binS_ok hρ hs h
  · split at h
    · rename_i fs hu
      split at h
      · rename_i r hq hr
        cases h
        exact ⟨(aggs hu hq hr).2, rfl, hs⟩
      · cases h
    · exact binS_ok hρ hs h
  · split at h
    · rename_i hu _
      split at h
      · rename_i r hr
        cases h
        exact ⟨(hstr (by assumption) hr).1, rfl, hs⟩
      · cases h
    · split at h
      · rename_i r hr
        cases h
        exact ⟨(hstr (by assumption) hr).2, rfl, hs⟩
      · cases h
    · exact binS_ok hρ hs h

end

end Go.Eng
