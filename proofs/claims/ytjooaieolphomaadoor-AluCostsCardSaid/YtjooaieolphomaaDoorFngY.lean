/-
  A symbolic executor, part Y: rows of a length that is not known: lengths, cuts, what is appended.
-/
import Derived.Test.YtjooaieolphomaaDoorFngX
set_option linter.unusedVariables false
set_option linter.unusedSimpArgs false
namespace Go.Eng

/-! ### lengths -/

def lenT (cx : Cx) (ats : Array TypeId) (x : SV) (s : St) : R :=
  match ats[0]? with
  | none => .bad 230
  | some t => match cx.und t, x with
    | some (.slice _), .sl _ _ _ len _ => obl s (leE cx (.c 0) len) fun s => ret s (.int .i64 len)
    | some .string, .str e => ret s (.int .i64 (.f 21 e (.c 0) (.c 0)))
    | _, _ => (match lenS cx ats x with
      | some v => ret s v
      | none => .bad 231)

theorem lenT_ok {cx : Cx} {ρ : Env} (hρ : EnvOk cx ρ) {β : Bt} {s s' : St} {w : World} (hs : Sat ρ β s w) {ats : Array TypeId} {ty : TypeId} {X v : SV} {args : Array Value} (h0 : args[0]? = some (X.den ρ β))
    (h : (lenT cx ats X s).sel ρ = some (v, s')) : LookOk cx ρ β s s' w (Builtin.len_ ats ty args) v := by
  unfold lenT at h
  split at h
  · cases h
  · rename_i t ht
    split at h
    · rename_i e b z off len cap hu
      obtain ⟨s1, e1, hs1, h1, h⟩ := obl_ok hs h
      cases h
      have g1 := leE_ne hρ h1
      simp only [E.ev] at g1
      refine ⟨?_, e1, hs1⟩
      rw [sl_den] at h0
      simp [Builtin.len_, ht, h0, run_und hu, SV.den, goInt]
      omega
    · rename_i e hu
      cases h
      refine ⟨?_, rfl, hs⟩
      have hsz := strOf_size (e.ev ρ)
      simp only [SV.den] at h0
      simp only [Builtin.len_, ht, h0, Sem.run_bind, run_und hu, Result.andThen_ok, SV.den, E.ev, rho_f hρ (n := 21) (by omega) (by omega), fL, goInt, Sem.run_pure, hsz]
    · split at h
      · rename_i r hr
        cases h
        exact ⟨lenS_ok h0 hr, rfl, hs⟩
      · cases h

/-! ### cuts -/

def optE : Option SV → E → Option E
  | none, d => some d
  | some (.int _ e), _ => some e
  | _, _ => none

/-- where a cut begins: where nothing is left of the room the place stays -/
def cutOff (cx : Cx) (cap off lo : E) : E :=
  match lo with
  | .c 0 => off
  | lo => match E.b' cx .eq .i64 cap lo with
    | .c n => if n = 0 then addE off lo else off
    | t => .ite t off (addE off lo)

def isZero : E → Bool
  | .c n => decide (n = 0)
  | _ => false
theorem isZero_ok {e : E} (h : isZero e = true) : e = .c 0 := by cases e <;> simp [isZero] at h; rw [h]

def sliceT (cx : Cx) (t : TypeId) (x : SV) (lo hi mx : Option SV) (s : St) : R :=
  match cx.und t, x, mx with
  | some (.slice e), .sl b z off len cap, none =>
    (match optE lo (.c 0), optE hi len, rowOf cx s b, szT cx e with
    | some l, some h, some (cks, _, n), some z' =>
      if z' == z && cks.length == z && decide (0 < z) && lo0 (off.iv cx) then
        obl s (leE cx (.c 0) l) fun s => obl s (leE cx l h) fun s => obl s (leE cx (.c 0) len) fun s =>
        (match cap with
        | some cp => obl s (leE cx h cp) fun s => ret s (.sl b z (cutOff cx cp off l) (subE h l) (some (subE cp l)))
        | none => match b with
          | .own _ => if isZero off && isZero l then obl s (leE cx h n) fun s => ret s (.sl b z (.c 0) h none) else .bad 240
          | _ => .bad 240)
      else .bad 241
    | _, _, _, _ => .bad 242)
  | _, _, _ => (match sliceS cx t x lo hi mx s with
    | some v => ret s v
    | none => .bad 243)

section
variable {cx : Cx} {ρ : Env} (hρ : EnvOk cx ρ) {β : Bt} {s s' : St} {w : World}
include hρ

theorem cutOff_ev (cap off lo : E) : (cutOff cx cap off lo).ev ρ = if lo.ev ρ = 0 then off.ev ρ else if cap.ev ρ = lo.ev ρ then off.ev ρ else off.ev ρ + lo.ev ρ := by
  have hq := E.b'_ev hρ .eq .i64 cap lo
  simp only [BO.ev] at hq
  have key : (match E.b' cx .eq .i64 cap lo with
    | .c n => if n = 0 then addE off lo else off
    | t => .ite t off (addE off lo)).ev ρ = if cap.ev ρ = lo.ev ρ then off.ev ρ else off.ev ρ + lo.ev ρ := by
    split
    · rename_i n hn
      rw [hn] at hq
      simp only [E.ev, bool01] at hq
      split at hq
      · rename_i hh
        simp at hh
        subst hq
        simp [hh]
      · rename_i hh
        simp at hh
        subst hq
        simp [hh, addE_ev]
    · rename_i t _
      simp only [E.ev, hq, bool01]
      split
      · rename_i hh
        simp at hh
        simp [hh]
      · rename_i hh
        simp at hh
        simp [hh, addE_ev]
  unfold cutOff
  split
  · simp [E.ev]
  · rename_i hne
    rw [key]
    by_cases h0 : lo.ev ρ = 0
    · simp [h0]
    · simp [h0]

omit hρ in
theorem optE_bound {lo : Option SV} {d l : E} (h : optE lo d = some l) {y : Nat} {c : BoundsCode} (hl : 0 ≤ l.ev ρ) (hy : l.ev ρ ≤ y) :
    ∀ v, lo = some v → (Instr.sliceBound (v.den ρ β) y c).run cx.P w = .ok (l.ev ρ).toNat w := by
  rintro v rfl
  cases v <;> simp only [optE] at h <;> try (cases h; done)
  cases h
  simp [Instr.sliceBound, SV.den, asIntOf, hl, hy]

theorem sliceT_ok (hs : Sat ρ β s w) {t : TypeId} {X v : SV} {lo hi mx : Option SV} (h : (sliceT cx t X lo hi mx s).sel ρ = some (v, s')) :
    LookOk cx ρ β s s' w (Instr.sliceAt t (X.den ρ β) (lo.map (SV.den ρ β)) (hi.map (SV.den ρ β)) (mx.map (SV.den ρ β))) v := by
  unfold sliceT at h
  split at h
  · rename_i e b z off len cap hu
    split at h
    · rename_i l hh cks q n z' hl hh' hrow hz'
      split at h
      · rename_i hc
        simp only [Bool.and_eq_true, beq_iff_eq, decide_eq_true_eq] at hc
        obtain ⟨⟨⟨rfl, hcks⟩, hz0⟩, hoff⟩ := hc
        obtain ⟨s1, e1, hs1, h1, hA⟩ := obl_ok hs h
        obtain ⟨s2, e2, hs2, h2, hB⟩ := obl_ok hs1 hA
        obtain ⟨s3, e3, hs3, h3, hC⟩ := obl_ok hs2 hB
        clear h hA hB
        have g1 := leE_ne hρ h1
        have g2 := leE_ne hρ h2
        have g3 := leE_ne hρ h3
        have g0 := lo0_ok hoff (E.iv_ok hρ off)
        simp only [E.ev] at g1 g3
        -- the bounds
        have hbounds : ∀ CAP : Nat, hh.ev ρ ≤ CAP ∨ hi = none → (Instr.sliceBounds true (len.ev ρ).toNat CAP (lo.map (SV.den ρ β)) (hi.map (SV.den ρ β)) none).run cx.P w = .ok ((l.ev ρ).toNat, (hh.ev ρ).toNat, CAP) w := by
          intro CAP hcap
          cases hi with
          | none =>
            simp only [optE, Option.some.injEq] at hh'
            subst hh'
            cases lo with
            | none =>
              simp only [optE, Option.some.injEq] at hl
              subst hl
              simp [Instr.sliceBounds, E.ev]
            | some lv =>
              have := optE_bound (cx := cx) (β := β) (w := w) hl (y := (len.ev ρ).toNat) (c := .sliceB) g1 (by omega) lv rfl
              simp [Instr.sliceBounds, this]
          | some hv =>
            have hcap' : hh.ev ρ ≤ CAP := by
              rcases hcap with h | h
              · exact h
              · cases h
            have b1 := optE_bound (cx := cx) (β := β) (w := w) hh' (y := CAP) (c := .sliceAcap) (by omega) hcap' hv rfl
            cases lo with
            | none =>
              simp only [optE, Option.some.injEq] at hl
              subst hl
              simp [Instr.sliceBounds, b1, E.ev]
            | some lv =>
              have b2 := optE_bound (cx := cx) (β := β) (w := w) hl (y := (hh.ev ρ).toNat) (c := .sliceB) g1 (by omega) lv rfl
              simp [Instr.sliceBounds, b1, b2]
        cases cap with
        | some cp =>
          simp only at hC
          obtain ⟨s4, e4, hs4, h4, hD⟩ := obl_ok hs3 hC
          cases hD
          have g4 := leE_ne hρ h4
          refine ⟨?_, e4.trans (e3.trans (e2.trans e1)), hs4⟩
          rw [sl_den, sl_den]
          have hb := hbounds (cp.ev ρ).toNat (.inl (by omega))
          simp only [slCap, Option.map_none, Instr.sliceAt, Instr.slice, Sem.run_bind, run_und hu, Result.andThen_ok, hb, run_sizeOf_of hz', Sem.run_pure, subE_ev, cutOff_ev hρ]
          congr 1
          have ec : ((cp.ev ρ).toNat = (l.ev ρ).toNat) ↔ (cp.ev ρ = l.ev ρ) := by omega
          by_cases hcl : cp.ev ρ = l.ev ρ
          · rw [if_pos (ec.2 hcl), if_pos hcl]
            simp only [ite_self]
            congr 1 <;> omega
          · rw [if_neg (fun h => hcl (ec.1 h)), if_neg hcl]
            have : ((bsAddr ρ β b).map (·.add ((off.ev ρ).toNat * z'))).map (·.add ((l.ev ρ).toNat * z')) = (bsAddr ρ β b).map (·.add ((if l.ev ρ = 0 then off.ev ρ else off.ev ρ + l.ev ρ).toNat * z')) := by
              rw [Option.map_map]
              congr 1
              funext a
              simp only [Function.comp, addr_add2]
              congr 1
              split
              · rename_i h0; rw [h0]; simp
              · rw [Int.toNat_add g0 g1, Nat.add_mul]
            rw [this]
            congr 1 <;> omega
        | none =>
          cases b with
          | inp k => cases hC
          | own j =>
            simp only at hC
            split at hC
            case isFalse => cases hC
            rename_i hzz
            simp only [Bool.and_eq_true] at hzz
            have ho0 := isZero_ok hzz.1
            have hl0 := isZero_ok hzz.2
            subst ho0
            subst hl0
            obtain ⟨s4, e4, hs4, h4, hD⟩ := obl_ok hs3 hC
            cases hD
            have g4 := leE_ne hρ h4
            refine ⟨?_, e4.trans (e3.trans (e2.trans e1)), hs4⟩
            rw [sl_den, sl_den]
            -- the capacity is not less than what is told
            have hcapn : (n.ev ρ).toNat ≤ (β j).2.1 - 1 := by
              simp only [rowOf] at hrow
              split at hrow
              · rename_i cks' e' q' n' hj
                cases hrow
                rcases hs.blk j _ hj with ⟨_, h0⟩ | ⟨tl, hq, hheap, hlen, hmax⟩
                · omega
                · have hle : (n.ev ρ).toNat * cks.length ≤ ((β j).2.1 - 1) * cks.length := by
                    rw [← hlen, List.length_append, rowV_len]; omega
                  exact Nat.le_of_mul_le_mul_right hle (by omega)
              · cases hrow
            have hb := hbounds ((β j).2.1 - 1) (.inl (by omega))
            simp only [E.ev] at hb
            simp only [slCap, Option.map_none, Instr.sliceAt, Instr.slice, Sem.run_bind, run_und hu, Result.andThen_ok, run_sizeOf_of hz', Sem.run_pure, hb]
            simp [E.ev, addr_add2]
            intro _
            congr 1
      · cases h
    · cases h
  · split at h
    · rename_i r hr
      cases h
      exact ⟨sliceS_ok hs hr, rfl, hs⟩
    · cases h

end

/-! ### what is appended -/

inductive Src where
  | list (l : List E)
  | row (d off m : E)

def dropE (d off : E) : E :=
  match off with
  | .c 0 => d
  | off => .f 18 d off (.c 0)
def Src.n : Src → E
  | .list l => .c l.length
  | .row _ _ m => m
def putsE (q n : E) : List E → E
  | [] => q
  | x :: l => putsE (.f 14 q n x) (addE n (.c 1)) l
def Src.put (q n : E) : Src → E
  | .list l => putsE q n l
  | .row d off _ => .f 16 q n (dropE d off)
noncomputable def Src.at (ρ : Env) : Src → Nat → Int
  | .list l, i => ((l[i]?).map (E.ev ρ)).getD 0
  | .row d off _, i => rdZ (d.ev ρ) (((off.ev ρ).toNat + i : Nat) : Int)

theorem putsE_ev {cx : Cx} {ρ : Env} (hρ : EnvOk cx ρ) : ∀ (l : List E) (q n : E), 0 ≤ n.ev ρ → ∀ i : Nat, i < (n.ev ρ).toNat + l.length →
    rdZ ((putsE q n l).ev ρ) i = if i < (n.ev ρ).toNat then rdZ (q.ev ρ) i else ((l[i - (n.ev ρ).toNat]?).map (E.ev ρ)).getD 0
  | [], q, n, hn, i, hi => by
    simp only [List.length_nil, Nat.add_zero] at hi
    simp only [putsE]; rw [if_pos hi]
  | x :: l, q, n, hn, i, hi => by
    have hn1 : (addE n (.c 1)).ev ρ = n.ev ρ + 1 := by rw [addE_ev]; rfl
    have hn2 : ((addE n (.c 1)).ev ρ).toNat = (n.ev ρ).toNat + 1 := by rw [hn1]; omega
    simp only [putsE]
    rw [putsE_ev hρ l _ _ (by rw [hn1]; omega) i (by rw [hn2]; simp at hi; omega), hn2]
    have hq : ((E.f 14 q n x).ev ρ) = updZ (q.ev ρ) (n.ev ρ) (x.ev ρ) := by
      simp only [E.ev, rho_f hρ (n := 14) (by omega) (by omega)]; rfl
    rw [hq, rdZ_upd, Int.toNat_natCast]
    by_cases h1 : i < (n.ev ρ).toNat
    · rw [if_pos (by omega), if_neg (by omega), if_pos h1]
    · rw [if_neg h1]
      by_cases h2 : i = (n.ev ρ).toNat
      · rw [if_pos (by omega), if_pos h2, h2]; simp
      · rw [if_neg (by omega), show i - (n.ev ρ).toNat = (i - ((n.ev ρ).toNat + 1)) + 1 by omega, List.getElem?_cons_succ]

theorem dropE_ev {cx : Cx} {ρ : Env} (hρ : EnvOk cx ρ) (d off : E) (i : Nat) : rdZ ((dropE d off).ev ρ) i = rdZ (d.ev ρ) (((off.ev ρ).toNat + i : Nat) : Int) := by
  unfold dropE
  split
  · simp [E.ev]
  · simp only [E.ev, rho_f hρ (n := 18) (by omega) (by omega), fL]
    rw [rdZ_drop, Int.toNat_natCast]

theorem Src.put_ev {cx : Cx} {ρ : Env} (hρ : EnvOk cx ρ) (x : Src) (q n : E) (hn : 0 ≤ n.ev ρ) (i : Nat) (hi : i < (n.ev ρ).toNat + (x.n.ev ρ).toNat) :
    rdZ ((x.put q n).ev ρ) i = if i < (n.ev ρ).toNat then rdZ (q.ev ρ) i else x.at ρ (i - (n.ev ρ).toNat) := by
  cases x with
  | list l =>
    simp only [Src.n, E.ev, Int.toNat_natCast] at hi
    exact putsE_ev hρ l q n hn i hi
  | row d off m =>
    simp only [Src.put, Src.at]
    have : ((E.f 16 q n (dropE d off)).ev ρ) = appZ (q.ev ρ) (n.ev ρ) ((dropE d off).ev ρ) := by
      simp only [E.ev, rho_f hρ (n := 16) (by omega) (by omega)]; rfl
    rw [this, rdZ_app, Int.toNat_natCast]
    split
    · rfl
    · rw [dropE_ev hρ]

/-- the numbers of parts that lie one behind the other -/
def chunkP (cx : Cx) (cks : List CK) (z : Nat) : Nat → List SV → Option (List E)
  | 0, _ => some []
  | n + 1, l => match codeP cx cks (l.take z), chunkP cx cks z n (l.drop z) with
    | some e, some es => some (e :: es)
    | _, _ => none

theorem chunkP_ok {cx : Cx} {ρ : Env} (hρ : EnvOk cx ρ) (β : Bt) {cks : List CK} : ∀ (n : Nat) {l : List SV} {es : List E}, chunkP cx cks cks.length n l = some es → l.length = n * cks.length →
    es.length = n ∧ ∀ i0 : Nat, ∀ f : Nat → Int, (∀ i, i < n → f (i0 + i) = ((es[i]?).map (E.ev ρ)).getD 0) → SV.denL ρ β l = tabL (fun i => elemV cks (f i)) i0 n
  | 0, l, es, h, hl => by
    cases h
    have : l = [] := List.length_eq_zero_iff.1 (by simpa using hl)
    subst this
    exact ⟨rfl, fun _ _ _ => rfl⟩
  | n + 1, l, es, h, hl => by
    simp only [chunkP] at h
    split at h
    · rename_i e es' he hes
      cases h
      have hl' : (l.drop cks.length).length = n * cks.length := by rw [List.length_drop, hl, Nat.succ_mul]; omega
      obtain ⟨g1, g2⟩ := chunkP_ok hρ β n hes hl'
      refine ⟨by simp [g1], fun i0 f hf => ?_⟩
      have h0 := hf 0 (by omega)
      simp only [Nat.add_zero, List.getElem?_cons_zero, Option.map_some, Option.getD_some] at h0
      have hr := g2 (i0 + 1) f (fun i hi => by
        have := hf (i + 1) (by omega)
        rw [show i0 + 1 + i = i0 + (i + 1) by omega, this]; simp)
      simp only [tabL]
      rw [h0, ← codeP_den hρ β he, ← hr, ← denL_append, List.take_append_drop]
    · cases h

def srcOf (cx : Cx) (cks : List CK) (y : SV) (s : St) : Option Src :=
  match y with
  | .slice j off m _ => match s.cellN j off (m * cks.length) with
    | some l => (chunkP cx cks cks.length m l).map .list
    | none => none
  | .lit (.slice none 0 _) => some (.list [])
  | .sl b z off m _ => match rowOf cx s b with
    | some (cks', d, _) => if z == cks.length && decide (cks' = cks) then some (.row d off m) else none
    | none => none
  | _ => none

/-- what must hold of it -/
def srcOb (cx : Cx) (y : SV) (s : St) (k : St → R) : R :=
  match y with
  | .sl b _ off m _ => match rowOf cx s b with
    | some (_, _, n) => obl s (leE cx (.c 0) off) fun s => obl s (leE cx (.c 0) m) fun s => obl s (leE cx (addE off m) n) k
    | none => .bad 250
  | _ => k s

section
variable {cx : Cx} {ρ : Env} (hρ : EnvOk cx ρ) {β : Bt} {s s' : St} {w : World}
include hρ

theorem srcOf_ok (hs : Sat ρ β s w) {cks : List CK} (hz : 0 < cks.length) {y : SV} {x : Src} (h : srcOf cx cks y s = some x) {k : St → R} {r : SV × St} (hk : (srcOb cx y s k).sel ρ = some r) :
    ∃ s1, s1.bl = s.bl ∧ Sat ρ β s1 w ∧ (k s1).sel ρ = some r ∧ 0 ≤ x.n.ev ρ ∧ ∃ a c, y.den ρ β = .slice a (x.n.ev ρ).toNat c ∧
      ((x.n.ev ρ).toNat ≠ 0 → ∃ a', a = some a' ∧ ∀ i v, (tabL (fun i => elemV cks (x.at ρ i)) 0 (x.n.ev ρ).toNat)[i]? = some v → w.cell? (a'.add i) = some v) := by
  unfold srcOf at h
  split at h
  · rename_i j off m c
    split at h
    · rename_i l hl
      obtain ⟨es, hes, rfl⟩ := Option.map_eq_some_iff.1 h
      obtain ⟨hln, hcells⟩ := hs.cellN _ off hl
      obtain ⟨g1, g2⟩ := chunkP_ok hρ β m hes hln
      simp only [srcOb] at hk
      refine ⟨s, rfl, hs, hk, by simp [Src.n, E.ev], some ⟨(β j).1, off, none⟩, _, by simp [SV.den, Src.n, E.ev, g1]; rfl, fun _ => ⟨_, rfl, fun i v hv => ?_⟩⟩
      have hd := g2 0 ((Src.list es).at ρ) (fun i _ => by simp [Src.at])
      simp only [Src.n, E.ev, Int.toNat_natCast, g1] at hv
      rw [← hd, denL_get] at hv
      obtain ⟨y, hy, rfl⟩ := Option.map_eq_some_iff.1 hv
      rw [addr_add]
      exact hcells i y hy
    · cases h
  · cases h
    simp only [srcOb] at hk
    exact ⟨s, rfl, hs, hk, by simp [Src.n, E.ev], none, _, by simp [SV.den, Src.n, E.ev]; rfl, fun h => absurd rfl h⟩
  · rename_i b z off m c
    split at h
    · rename_i cks' d n hrow
      split at h
      · rename_i hc
        simp only [Bool.and_eq_true, beq_iff_eq, decide_eq_true_eq] at hc
        obtain ⟨rfl, rfl⟩ := hc
        cases h
        simp only [srcOb, hrow] at hk
        obtain ⟨s1, e1, hs1, h1, hk⟩ := obl_ok hs hk
        obtain ⟨s2, e2, hs2, h2, hk⟩ := obl_ok hs1 hk
        obtain ⟨s3, e3, hs3, h3, hk⟩ := obl_ok hs2 hk
        have g1 := leE_ne hρ h1
        have g2 := leE_ne hρ h2
        have g3 := leE_ne hρ h3
        rw [addE_ev] at g3
        simp only [E.ev] at g1 g2
        refine ⟨s3, e3.trans (e2.trans e1), hs3, hk, g2, _, _, sl_den ρ β b _ off m c, fun hm => ?_⟩
        simp only [Src.n] at hm ⊢
        obtain ⟨a, ha, _⟩ := row_cell hρ hs hrow (i := (off.ev ρ).toNat) (by omega)
        rw [ha]
        refine ⟨_, rfl, fun i v hv => ?_⟩
        have hlen := tabL_len (f := fun i => elemV cks' ((Src.row d off m).at ρ i)) (z := cks'.length) (fun _ => elemV_len _ _) (m.ev ρ).toNat 0
        have hi : i < (m.ev ρ).toNat * cks'.length := by rw [← hlen]; exact (List.getElem?_eq_some_iff.1 hv).1
        have hk1 : i / cks'.length < (m.ev ρ).toNat := Nat.div_lt_of_lt_mul (by rw [Nat.mul_comm]; exact hi)
        have hr1 : i % cks'.length < cks'.length := Nat.mod_lt _ hz
        have hii : i = i / cks'.length * cks'.length + i % cks'.length := by rw [Nat.mul_comm]; exact (Nat.div_add_mod _ _).symm
        rw [hii, tabL_get (fun _ => elemV_len _ _) _ _ _ _ hk1 hr1, Nat.zero_add] at hv
        obtain ⟨a2, ha2, hcell⟩ := row_cell hρ hs hrow (i := (off.ev ρ).toNat + i / cks'.length) (by omega)
        rw [ha] at ha2
        cases ha2
        have := hcell (i % cks'.length) v hv
        rw [addr_add2]
        rw [hii, show (off.ev ρ).toNat * cks'.length + (i / cks'.length * cks'.length + i % cks'.length) = ((off.ev ρ).toNat + i / cks'.length) * cks'.length + i % cks'.length by rw [Nat.add_mul]; omega]
        exact this
      · cases h
    · cases h
  · cases h

end

inductive Dst where
  | nil
  | arr (j : Nat) (e : TypeId) (q n : E)
  | conc (j : Nat) (e : TypeId) (q n : E)
def Dst.q : Dst → E
  | .nil => .c 0
  | .arr _ _ q _ => q
  | .conc _ _ q _ => q
def Dst.n : Dst → E
  | .nil => .c 0
  | .arr _ _ _ n => n
  | .conc _ _ _ n => n
def Dst.st (s : St) : Dst → St
  | .nil => s
  | .arr j _ _ _ => s.drop j
  | .conc j _ _ _ => s.drop j

def dstOf' (cx : Cx) (cks : List CK) (e : TypeId) (x : SV) (s : St) : Option Dst :=
  match x with
  | .lit (.slice none 0 0) => some .nil
  | .sl (.own j) z (.c 0) len none => match s.bl[j]? with
    | some (.arr cks' e' q n) => if z == cks.length && decide (cks' = cks) && e' == e && n.beq len then some (.arr j e q n) else none
    | _ => none
  | .slice j 0 n c => match s.bl[j]? with
    | some (.cells l e' o) => if e' == e && decide (n * cks.length ≤ l.length) && capOk c o l.length cks.length then
        (chunkP cx cks cks.length n (l.take (n * cks.length))).map fun es => .conc j e (listE es) (.c n) else none
    | _ => none
  | _ => none

/-- a row that may be appended to: its place and its room -/
def RowAtD (ρ : Env) (β : Bt) (s : St) (w : World) (cks : List CK) (e : TypeId) (d : Dst) (V : Value) : Prop :=
  (V = .slice none 0 0 ∧ (d.n.ev ρ).toNat = 0 ∧ ∀ (j : Nat) (b : SBlk), s.bl[j]? = some b → (d.st s).bl[j]? = some b ∨ ((d.st s).bl[j]? = some SBlk.gone ∧ b.occ (β j).2.1 = false)) ∨
  (∃ (j : Nat) (b : SBlk) (cap : Nat) (tl : List Value), s.bl[j]? = some b ∧ b.occ (β j).2.1 = true ∧ d.st s = s.drop j ∧ V = .slice (some ⟨(β j).1, 0, none⟩) (d.n.ev ρ).toNat cap ∧
    w.heap[(β j).1]? = some (.cells (rowV cks (d.q.ev ρ) (d.n.ev ρ).toNat ++ tl).toArray e (0, 0)) ∧ (rowV cks (d.q.ev ρ) (d.n.ev ρ).toNat ++ tl).length = cap * cks.length ∧ cap ≤ maxLen)

theorem dstOf_ok {cx : Cx} {ρ : Env} (hρ : EnvOk cx ρ) {β : Bt} {s : St} {w : World} (hs : Sat ρ β s w) {cks : List CK} {e : TypeId} {x : SV} {d : Dst} (h : dstOf' cx cks e x s = some d) :
    RowAtD ρ β s w cks e d (x.den ρ β) := by
  unfold dstOf' at h
  split at h
  · cases h
    exact .inl ⟨rfl, by simp [Dst.n, E.ev], fun j b hj => .inl hj⟩
  · rename_i j z len
    split at h
    · rename_i cks' e' q n hj
      split at h
      · rename_i hc
        simp only [Bool.and_eq_true, beq_iff_eq, decide_eq_true_eq] at hc
        obtain ⟨⟨⟨rfl, rfl⟩, rfl⟩, hn⟩ := hc
        have hn := E.eq_of_beq hn
        subst hn
        cases h
        rcases hs.blk j _ hj with ⟨h0, hn0⟩ | ⟨tl, hq, hheap, hlen, hmax⟩
        · left
          refine ⟨by simp [SV.den, h0, hn0], hn0, fun i b hi => ?_⟩
          by_cases hij : i = j
          · subst hij
            right
            rw [hj] at hi
            cases hi
            refine ⟨?_, by simp [SBlk.occ, h0]⟩
            have := (List.getElem?_eq_some_iff.1 hj).1
            show (s.drop i).bl[i]? = _
            simp [St.drop, this]
          · left
            show (s.drop j).bl[i]? = _
            simp [St.drop, List.getElem?_set_ne (Ne.symm hij), hi]
        · right
          refine ⟨j, _, (β j).2.1 - 1, tl, hj, by simp [SBlk.occ, hq], rfl, ?_, hheap, hlen, hmax⟩
          show _ = Value.slice _ (n.ev ρ).toNat _
          simp only [SV.den, E.ev]
          rw [if_neg (by omega)]
          simp
      · cases h
    · cases h
  · rename_i j n c
    split at h
    · rename_i l e' o hj
      split at h
      · rename_i hc
        simp only [Bool.and_eq_true, beq_iff_eq, decide_eq_true_eq] at hc
        obtain ⟨⟨rfl, hln⟩, hcap⟩ := hc
        obtain ⟨es, hes, rfl⟩ := Option.map_eq_some_iff.1 h
        obtain ⟨g1, g2⟩ := chunkP_ok hρ β n hes (by simp; omega)
        obtain ⟨tl, hheap, htl, hcp⟩ := hs.blk j _ hj
        have hd := g2 0 (fun i => rdZ ((listE es).ev ρ) i) (fun i _ => by rw [Nat.zero_add, listE_ev hρ])
        right
        refine ⟨j, _, c.getD (β j).2.1, SV.denL ρ β (l.drop (n * cks.length)) ++ tl, hj, rfl, rfl, by simp [SV.den, Dst.n, E.ev], ?_⟩
        have hrow : rowV cks ((listE es).ev ρ) n ++ (SV.denL ρ β (l.drop (n * cks.length)) ++ tl) = SV.denL ρ β l ++ tl := by
          unfold rowV
          rw [← hd, ← List.append_assoc, ← denL_append, List.take_append_drop]
        simp only [Dst.n, Dst.q, E.ev, Int.toNat_natCast]
        rw [hrow]
        refine ⟨hheap, ?_⟩
        unfold capOk at hcap
        split at hcap
        · simp only [Bool.and_eq_true, decide_eq_true_eq] at hcap
          rw [htl rfl]
          simp only [List.append_nil, denL_length, Option.getD_some]
          exact ⟨hcap.1, by unfold maxLen; omega⟩
        · simp only [decide_eq_true_eq] at hcap
          subst hcap
          exact hcp _ rfl
        · cases hcap
      · cases h
    · cases h
  · cases h

def appendT (cx : Cx) (cks : List CK) (ats : Array TypeId) (x y : SV) (s : St) : R :=
  match ats.toList with
  | [t, t'] =>
    (match cx.und t with
    | some (.slice e) => (match cx.inf e with
      | some i => (match i.zero with
        | some zv =>
          if decide (t = t') && decide (0 < i.size) && decide (zv.cells.size = i.size) && decide (i.bytes ≤ 1000000) && s.sc s.bl.length && (cks.length == i.size) then
            (match srcOf cx cks y s, dstOf' cx cks e x s with
            | some src, some d => srcOb cx y s fun s => obl s (leE cx (.c 0) d.n) fun s => obl s (leE cx (addE d.n src.n) (.c 1000000)) fun s =>
                ret ((d.st s).pushB (.arr cks e (src.put d.q d.n) (addE d.n src.n))) (.sl (.own s.bl.length) cks.length (.c 0) (addE d.n src.n) none)
            | _, _ => .bad 251)
          else .bad 252
        | none => .bad 253)
      | none => .bad 254)
    | _ => .bad 255)
  | _ => .bad 256

theorem St.drop_len (s : St) (j : Nat) : (s.drop j).bl.length = s.bl.length := by simp [St.drop]
theorem Dst.st_len (s : St) (d : Dst) : (d.st s).bl.length = s.bl.length := by cases d <;> simp [Dst.st, St.drop_len]
theorem drop_sc' {s : St} {j n : Nat} (h : s.sc n = true) : (s.drop j).sc n = true := by
  unfold St.sc St.drop at *
  rw [List.all_eq_true] at *
  intro b hb
  rcases List.mem_or_eq_of_mem_set hb with hb | rfl
  · exact h b hb
  · rfl
theorem Dst.st_sc {s : St} (d : Dst) {n : Nat} (h : s.sc n = true) : (d.st s).sc n = true := by
  cases d <;> simp only [Dst.st]
  · exact h
  · exact drop_sc' h
  · exact drop_sc' h
theorem Sat.dst {ρ : Env} {β : Bt} {s : St} {w : World} (h : Sat ρ β s w) (d : Dst) : Sat ρ β (d.st s) w := by
  cases d <;> simp only [Dst.st]
  · exact h
  · exact h.drop _
  · exact h.drop _
theorem Ext.dst (s : St) (d : Dst) (β : Bt) (w : World) : Ext s (d.st s) β β w w := by
  cases d <;> simp only [Dst.st]
  · exact Ext.refl _ _ _
  · exact Ext.drop _ _ _ _
  · exact Ext.drop _ _ _ _
theorem sc_bl {s s1 : St} (e : s1.bl = s.bl) {n : Nat} (h : s.sc n = true) : s1.sc n = true := by unfold St.sc at *; rw [e]; exact h
theorem dstOf_bl {cx : Cx} {cks : List CK} {e : TypeId} {x : SV} {s s1 : St} (h : s1.bl = s.bl) : dstOf' cx cks e x s1 = dstOf' cx cks e x s := by
  unfold dstOf'; rw [h]

/-- a block more, nothing else -/
theorem Ext.pushed {ρ : Env} {β : Bt} {s : St} {w : World} {b : SBlk} {g q : Nat} (hg : b.occ q = true → ∃ i, live β s i ∧ (β i).1 = g) : Ext s (s.pushB b) β (bnew β s.bl.length g q) w w := by
  have hag : ∀ j, j < s.bl.length → bnew β s.bl.length g q j = β j := fun j hj => by unfold bnew; rw [if_neg (by omega)]
  refine ⟨hag, fun j hj hl => ?_, fun j hj hl => ?_, Nat.le_refl _, fun _ _ _ => rfl, by simp [St.pushB], rfl, rfl, rfl⟩
  · rcases live_pushB hl with hl | ⟨rfl, _⟩
    · exact live_ag (hag j hj) hl
    · omega
  · rcases live_pushB hl with hl | ⟨rfl, ho⟩
    · have := live_lt hl; omega
    · have e1 : bnew β s.bl.length g q s.bl.length = (g, q, .nilIface) := by simp [bnew]
      rw [e1] at ho ⊢
      exact .inr (hg ho)

section
variable {cx : Cx} {ρ : Env} (hρ : EnvOk cx ρ) {β : Bt} {s s' : St} {w : World}
include hρ

theorem appendT_ok {cks : List CK} {ats : Array TypeId} {ty : TypeId} {x y v : SV} (hs : Sat ρ β s w) (h : (appendT cx cks ats x y s).sel ρ = some (v, s')) :
    ∃ β' w', (Builtin.append_ ats ty #[x.den ρ β, y.den ρ β]).run cx.P w = .ok (v.den ρ β') w' ∧ Sat ρ β' s' w' ∧ Ext s s' β β' w w' := by
  unfold appendT at h
  split at h
  case h_2 => cases h
  rename_i t t' hats
  split at h
  case h_2 => cases h
  rename_i e hu
  split at h
  case h_2 => cases h
  rename_i i hi
  split at h
  case h_2 => cases h
  rename_i zv hz
  split at h
  case isFalse => cases h
  rename_i hc
  simp only [Bool.and_eq_true, decide_eq_true_eq, beq_iff_eq] at hc
  obtain ⟨⟨⟨⟨⟨htt, hsz⟩, hzs⟩, hby⟩, hsc⟩, hck⟩ := hc
  subst htt
  have hats' : ats = #[t, t] := by
    apply Array.ext'
    simpa using hats
  subst hats'
  split at h
  case h_2 => cases h
  rename_i src d hsrc hdst
  obtain ⟨s1, e1, hs1, h, hm0, a, c, hy, hya⟩ := srcOf_ok hρ hs (by omega) hsrc h
  obtain ⟨s2, e2, hs2, h1, h⟩ := obl_ok hs1 h
  obtain ⟨s3, e3, hs3, h2, h⟩ := obl_ok hs2 h
  cases h
  have e13 : s3.bl = s.bl := e3.trans (e2.trans e1)
  have hdst3 : dstOf' cx cks e x s3 = some d := by rw [dstOf_bl e13]; exact hdst
  have hx := dstOf_ok hρ hs3 hdst3
  have hsc3 : s3.sc s3.bl.length = true := sc_bl e13 (by rw [e13]; exact hsc)
  have g1 := leE_ne hρ h1
  have g2 := leE_ne hρ h2
  rw [addE_ev] at g2
  simp only [E.ev] at g1 g2
  have hN : ((addE d.n src.n).ev ρ).toNat = (d.n.ev ρ).toNat + (src.n.ev ρ).toNat := by rw [addE_ev, Int.toNat_add g1 hm0]
  generalize hNe : (d.n.ev ρ).toNat = N at *
  generalize hMe : (src.n.ev ρ).toNat = M at *
  have hNM : N + M ≤ 1000000 := by omega
  -- the new content
  have hcont : rowV cks ((src.put d.q d.n).ev ρ) (N + M) = rowV cks (d.q.ev ρ) N ++ tabL (fun i => elemV cks (src.at ρ i)) 0 M := by
    unfold rowV
    rw [tabL_append]
    congr 1
    · refine tabL_congr _ _ _ fun k hk => ?_
      simp only [Nat.zero_add]
      rw [Src.put_ev hρ src d.q d.n g1 k (by omega), hNe, if_pos hk]
    · refine tabL_congr _ _ _ fun k hk => ?_
      simp only [Nat.zero_add]
      have := Src.put_ev hρ src d.q d.n g1 (N + k) (by omega)
      rw [hNe, if_neg (by omega), Nat.add_sub_cancel_left] at this
      rw [← this]
  have hsz' : (sizeOf e).run cx.P w = .ok i.size w := run_sizeOf_of (by simp [szT, hi])
  have hext0 := ext_kn2 e13 β w
  have hstl := Dst.st_len s3 d
  have hval : ∀ g q : Nat, 0 < q → (SV.sl (.own s3.bl.length) cks.length (.c 0) (addE d.n src.n) none).den ρ (bnew β s3.bl.length g q) = .slice (some ⟨g, 0, none⟩) (N + M) (q - 1) := by
    intro g q hq
    simp only [SV.den, bnew, if_true, E.ev, hN]
    rw [if_neg (by omega)]
    simp
  have hval0 : (SV.sl (.own s3.bl.length) cks.length (.c 0) (addE d.n src.n) none).den ρ (bnew β s3.bl.length 0 0) = .slice none (N + M) 0 := by
    simp [SV.den, bnew, E.ev, hN]
  rcases Nat.eq_zero_or_pos M with rfl | hM
  · -- nothing is appended
    have hfc : (Builtin.firstCells i.size 0 (.slice a 0 c)).run cx.P w = .ok #[] w := by
      cases a <;> simp [Builtin.firstCells, loadCells, loadCellsFrom]
    rcases hx with ⟨hxv, hn0, hgone⟩ | ⟨j, b, cap, tl, hj, ho, hst, hxv, hheap, hlen, hmax⟩
    · rw [hNe] at hn0
      subst hn0
      refine ⟨bnew β s3.bl.length 0 0, w, ?_, ?_, ?_⟩
      · rw [hxv, hy, hval0]
        simp [Builtin.append_, run_und hu, hsz', Builtin.lenOf, hfc]
      · have := (hs3.dst d).pushB (b := .arr cks e (src.put d.q d.n) (addE d.n src.n)) (g := 0) (q := 0) (by rw [hstl]; exact Dst.st_sc d hsc3) rfl (.inl ⟨rfl, by rw [hN]⟩) (fun h => by simp [SBlk.occ] at h) (fun h => by simp [SBlk.occ] at h)
        rw [hstl] at this
        exact this
      · have := Ext.pushed (ρ := ρ) (β := β) (s := d.st s3) (w := w) (b := .arr cks e (src.put d.q d.n) (addE d.n src.n)) (g := 0) (q := 0) (fun h => by simp [SBlk.occ] at h)
        rw [hstl] at this
        exact hext0.trans ((Ext.dst s3 d β w).trans this)
    · rw [hNe] at hxv hheap hlen
      have hle : N ≤ cap := by
        have : N * cks.length ≤ cap * cks.length := by rw [← hlen, List.length_append, rowV_len]; omega
        exact Nat.le_of_mul_le_mul_right this (by omega)
      have hlive : live β s3 j := ⟨b, hj, ho⟩
      have hgok : blkOk ρ β (cap + 1) (.arr cks e (src.put d.q d.n) (addE d.n src.n)) (w.heap[(β j).1]?) := by
        refine .inr ⟨tl, by omega, ?_, ?_, by simpa using hmax⟩
        · rw [hN, hcont, hheap]; simp [tabL]
        · rw [hN, hcont]; simp only [tabL, List.append_nil]; simpa using hlen
      refine ⟨bnew β s3.bl.length (β j).1 (cap + 1), w, ?_, ?_, ?_⟩
      · rw [hxv, hy, hval _ _ (by omega)]
        simp [Builtin.append_, run_und hu, hsz', Builtin.lenOf, hfc, hle, storeCells]
      · rw [hst]
        have := (hs3.drop j).pushB (b := .arr cks e (src.put d.q d.n) (addE d.n src.n)) (g := (β j).1) (q := cap + 1) (by rw [St.drop_len]; exact drop_sc' hsc3) rfl hgok
          (fun _ k hk he => (live_drop.1 hk).2 (hs3.inj _ _ (live_drop.1 hk).1 hlive he)) (fun _ k a' i' x' ha' hi' => (hs3.ro k a' i' x' ha' hi').2 j hlive)
        rw [St.drop_len] at this
        exact this
      · rw [hst]
        have hag : ∀ k, k < s3.bl.length → bnew β s3.bl.length (β j).1 (cap + 1) k = β k := fun k hk => by unfold bnew; rw [if_neg (by omega)]
        refine hext0.trans ⟨hag, fun k hk hl => ?_, fun k hk hl => ?_, Nat.le_refl _, fun _ _ _ => rfl, by simp [St.pushB, St.drop], rfl, rfl, rfl⟩
        · rcases live_pushB hl with hl | ⟨rfl, _⟩
          · exact live_ag (hag k hk) (live_drop.1 hl).1
          · rw [St.drop_len] at hk; omega
        · rcases live_pushB hl with hl | ⟨rfl, _⟩
          · have := live_lt (live_drop.1 hl).1; omega
          · exact .inr ⟨j, hlive, by rw [St.drop_len]; simp [bnew]⟩
  · -- something is
    obtain ⟨a', rfl, hcell⟩ := hya (by omega)
    generalize hnews : tabL (fun i => elemV cks (src.at ρ i)) 0 M = news at *
    have hnl : news.length = M * i.size := by rw [← hnews, tabL_len (fun _ => elemV_len _ _), hck]
    have hone : ∀ u ∈ news, u.oneCell' = true := by
      intro u hu
      rw [← hnews] at hu
      have : ∀ (n i0 : Nat), u ∈ tabL (fun i => elemV cks (src.at ρ i)) i0 n → u.oneCell' = true := by
        intro n
        induction n with
        | zero => intro i0 h; simp [tabL] at h
        | succ n ih =>
          intro i0 h
          simp only [tabL, List.mem_append] at h
          rcases h with h | h
          · exact oneV_elemV _ _ u h
          · exact ih _ h
      exact this M 0 hu
    rcases hx with ⟨hxv, hn0, hgone⟩ | ⟨j, b, cap, tl, hj, ho, hst, hxv, hheap, hlen, hmax⟩
    · -- to nothing
      rw [hNe] at hn0
      subst hn0
      have hr := run_append_nil (P := cx.P) w t ty e i zv (cx.undOk _ _ hu) (cx.infOk _ _ hi) hz a' M c news hnl hcell hM (by omega) (by
        have := Nat.mul_le_mul (show M ≤ 1000000 by omega) hby; omega)
      have hge := grownCap_ge w M 0 e
      have hle := grownCap_le_maxLen w M 0 e (by unfold maxLen; omega)
      obtain ⟨l1, l2⟩ := (hs3.dst d).laid (b := .arr cks e (src.put d.q d.n) (addE d.n src.n)) (o := .cells (news.toArray ++ Builtin.zeroCells zv.cells (grownCap w M 0 e - M)) e) (q := grownCap w M 0 e + 1) (by rw [hstl]; exact Dst.st_sc d hsc3) rfl (by
        refine .inr ⟨(Builtin.zeroCells zv.cells (grownCap w M 0 e - M)).toList, by omega, ?_, ?_, by simpa using hle⟩
        · rw [hN, hcont, toArr]; simp [rowV, tabL]
        · rw [hN, hcont]
          simp only [rowV, tabL, List.nil_append, List.length_append, hnl, Array.length_toList, size_zeroCells, hzs, Nat.add_sub_cancel, hck, ← Nat.add_mul]
          congr 1; omega)
      rw [hstl] at l1 l2
      refine ⟨_, _, ?_, l1, hext0.trans ((Ext.dst s3 d β w).trans l2)⟩
      rw [hxv, hy, hval _ _ (by omega), hr]
      simp
    · rw [hNe] at hxv hheap hlen
      have hlive : live β s3 j := ⟨b, hj, ho⟩
      by_cases hroom : N + M ≤ cap
      · -- there is room
        have hfit : N * i.size + news.length ≤ (rowV cks (d.q.ev ρ) N ++ tl).toArray.size := by
          simp only [List.size_toArray, hlen, hnl, hck, ← Nat.add_mul]; exact Nat.mul_le_mul_right _ hroom
        have hr := run_append_room (P := cx.P) w t ty e i (cx.undOk _ _ hu) (cx.infOk _ _ hi) (β j).1 N cap (rowV cks (d.q.ev ρ) N ++ tl).toArray hheap a' M c news hnl hcell hone hroom hfit
        have hcur : (rowV cks (d.q.ev ρ) N ++ tl).take (N * i.size) ++ news ++ (rowV cks (d.q.ev ρ) N ++ tl).drop (N * i.size + news.length) = rowV cks ((src.put d.q d.n).ev ρ) (N + M) ++ tl.drop news.length := by
          have hrl : (rowV cks (d.q.ev ρ) N).length = N * i.size := by rw [rowV_len, hck]
          rw [hcont, List.take_append_of_le_length (by omega), List.take_of_length_le (by omega)]
          rw [List.drop_append, List.drop_of_length_le (by omega), hrl, List.nil_append]
          simp
        obtain ⟨t1, t2⟩ := hs3.turned (b' := .arr cks e (src.put d.q d.n) (addE d.n src.n)) (q := cap + 1) hj ho hheap hsc3 rfl (cur := (rowV cks ((src.put d.q d.n).ev ρ) (N + M) ++ tl.drop news.length).toArray) (by
          refine .inr ⟨tl.drop news.length, by omega, by rw [hN], ?_, by simpa using hmax⟩
          rw [hN]
          simp only [List.length_append, rowV_len, List.length_drop, Nat.add_sub_cancel, hck, hnl] at hlen ⊢
          have h5 : N * i.size + M * i.size ≤ cap * i.size := by rw [← Nat.add_mul]; exact Nat.mul_le_mul_right _ hroom
          rw [Nat.add_mul]
          omega)
        refine ⟨_, _, ?_, by rw [hst]; exact t1, by rw [hst]; exact hext0.trans t2⟩
        rw [hxv, hy, hval _ _ (by omega), hr, hcur]
        simp
      · -- it grows
        have hr := run_append_grow (P := cx.P) w t ty e i zv (cx.undOk _ _ hu) (cx.infOk _ _ hi) hz ⟨(β j).1, 0, none⟩ N cap (rowV cks (d.q.ev ρ) N) (by rw [rowV_len, hck]) (by
            intro k u hk
            rw [addr_add, Nat.zero_add]
            simp only [World.cell?, hheap, Option.isSome_none, Bool.false_eq_true, if_false, List.getElem?_toArray]
            rw [List.getElem?_append_left ((List.getElem?_eq_some_iff.1 hk).1)]
            exact hk) a' M c news hnl hcell
          (by omega) (by omega) (growslice_fits (by omega) (by have := Nat.mul_le_mul hNM hby; omega))
        have hge := grownCap_ge w (N + M) cap e
        have hle := grownCap_le_maxLen w (N + M) cap e (by unfold maxLen; omega)
        obtain ⟨l1, l2⟩ := (hs3.drop j).laid (b := .arr cks e (src.put d.q d.n) (addE d.n src.n)) (o := .cells ((rowV cks (d.q.ev ρ) N).toArray ++ news.toArray ++ Builtin.zeroCells zv.cells (grownCap w (N + M) cap e - (N + M))) e) (q := grownCap w (N + M) cap e + 1)
          (by rw [St.drop_len]; exact drop_sc' hsc3) rfl (by
          refine .inr ⟨(Builtin.zeroCells zv.cells (grownCap w (N + M) cap e - (N + M))).toList, by omega, ?_, ?_, by simpa using hle⟩
          · rw [hN, hcont, List.append_toArray, toArr]
          · rw [hN, hcont]
            simp only [List.length_append, rowV_len, hnl, Array.length_toList, size_zeroCells, hzs, Nat.add_sub_cancel, hck, ← Nat.add_mul]
            congr 1; omega)
        rw [St.drop_len] at l1 l2
        refine ⟨_, _, ?_, by rw [hst]; exact l1, by rw [hst]; exact hext0.trans ((Ext.drop s3 j β w).trans l2)⟩
        rw [hxv, hy, hval _ _ (by omega), hr]
        simp

end

end Go.Eng
