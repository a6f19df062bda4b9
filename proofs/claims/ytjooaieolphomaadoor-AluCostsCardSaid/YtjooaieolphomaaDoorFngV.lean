/-
  A symbolic executor, part V: rows of a length that is not known: their parts, as expressions.
-/
import Derived.Test.YtjooaieolphomaaDoorFngF
import Derived.Laws.CopyRow
set_option linter.unusedVariables false
set_option linter.unusedSimpArgs false
namespace Go.Eng

/-! ### parts, as expressions -/

def ckS (cx : Cx) : CK → E → SV
  | .int k, e => .int k (E.w' cx k e)
  | .bool, e => .bool e
  | .str, e => .str e
def elemFS (cx : Cx) (e : E) : Nat → List CK → List SV
  | _, [] => []
  | f, k :: l => ckS cx k (E.rdA e (.c f)) :: elemFS cx e (f + 1) l
def elemS (cx : Cx) (cks : List CK) (e : E) : List SV :=
  match cks with
  | [k] => [ckS cx k e]
  | cks => elemFS cx e 0 cks

section
variable {cx : Cx} {ρ : Env} (hρ : EnvOk cx ρ) (β : Bt)
include hρ
theorem ckS_den (k : CK) (e : E) : (ckS cx k e).den ρ β = ckV k (e.ev ρ) := by
  cases k <;> simp only [ckS, SV.den, ckV, E.w'_ev hρ]
theorem elemFS_den (e : E) : ∀ (l : List CK) (f : Nat), SV.denL ρ β (elemFS cx e f l) = elemF (e.ev ρ) f l
  | [], _ => rfl
  | k :: l, f => by simp only [elemFS, SV.denL, elemF, ckS_den hρ, E.rdA_ev hρ, E.ev, elemFS_den e l (f + 1)]
theorem elemS_den (cks : List CK) (e : E) : SV.denL ρ β (elemS cx cks e) = elemV cks (e.ev ρ) := by
  rcases cks with _ | ⟨k, _ | ⟨k2, l⟩⟩
  · rfl
  · simp only [elemS, elemV, SV.denL, ckS_den hρ]
  · exact elemFS_den hρ β e _ _
end

theorem bytes_beq (a b : ByteArray) : (a == b) = decide (a = b) := by
  obtain ⟨⟨x⟩⟩ := a
  obtain ⟨⟨y⟩⟩ := b
  show ((⟨x⟩ : Array UInt8) == ⟨y⟩) = _
  by_cases h : x = y
  · subst h; simp
  · simp [h]

/-! ### numbers of rows and of texts -/

def listE : List E → E
  | [] => .c 0
  | x :: l => .f 11 x (listE l) (.c 0)

theorem listE_ev {cx : Cx} {ρ : Env} (hρ : EnvOk cx ρ) : ∀ (l : List E) (i : Nat), rdZ ((listE l).ev ρ) i = ((l[i]?).map (E.ev ρ)).getD 0
  | [], i => by simp [listE, E.ev, rdZ_nil]
  | x :: l, 0 => by
    simp only [listE, E.ev, rho_f hρ (n := 11) (by omega) (by omega), fL]
    exact rdZ_cons_zero _ _
  | x :: l, i + 1 => by
    simp only [listE, E.ev, rho_f hρ (n := 11) (by omega) (by omega), fL]
    rw [rdZ_cons_succ _ _ (by omega)]
    have := listE_ev hρ l i
    simp only [List.getElem?_cons_succ]
    rw [← this]
    congr 1
    omega

def strLit (b : ByteArray) : E := listE [.c b.size, listE (b.data.toList.map fun u => .c u.toNat)]

theorem strOf_eq {s : Int} {b : ByteArray} (h1 : rdZ s 0 = b.size) (h2 : b.size ≤ 1000000) (h3 : ∀ i : Nat, (h : i < b.size) → rdZ (rdZ s 1) i % 256 = (b.data[i]'h).toNat) : strOf s = b := by
  have hl : slenZ s = b.size := by unfold slenZ strMax; rw [h1]; split <;> (try split) <;> omega
  have : (strOf s).data = b.data := by
    apply Array.ext
    · have := strOf_size s
      have e : ((strOf s).size : Int) = b.size := by rw [this, hl]
      have : (strOf s).size = b.size := by omega
      exact this
    · intro i hi1 hi2
      have hib : i < b.size := hi2
      have h := strOf_get s i (by rw [hl]; omega)
      rw [Array.getElem?_eq_getElem hi1] at h
      rw [Option.some.inj h]
      have h4 := h3 i hib
      unfold sbyteZ
      rw [h4, Int.toNat_natCast]
      simp
  cases hs : strOf s
  cases b
  simp_all

theorem strLit_den {cx : Cx} {ρ : Env} (hρ : EnvOk cx ρ) {b : ByteArray} (hb : b.size ≤ 1000000) : strOf ((strLit b).ev ρ) = b := by
  refine strOf_eq ?_ hb ?_
  · have := listE_ev hρ [.c b.size, listE (b.data.toList.map fun u => .c u.toNat)] 0
    simp only [List.getElem?_cons_zero, Option.map_some, Option.getD_some, E.ev] at this
    exact this
  · intro i hi
    have h1 := listE_ev hρ [.c b.size, listE (b.data.toList.map fun u => .c u.toNat)] 1
    simp only [List.getElem?_cons_succ, List.getElem?_cons_zero, Option.map_some, Option.getD_some] at h1
    have h1' : rdZ ((strLit b).ev ρ) 1 = (listE (b.data.toList.map fun u => .c u.toNat)).ev ρ := h1
    rw [h1', listE_ev hρ]
    have hi' : i < b.data.size := hi
    simp only [List.getElem?_map, Array.getElem?_toList, Array.getElem?_eq_getElem hi', Option.map_some, E.ev, Option.getD_some]
    have := UInt8.toNat_lt b.data[i]
    omega

def strE : SV → Option E
  | .str e => some e
  | .lit (.string b) => if b.size ≤ 1000000 then some (strLit b) else none
  | _ => none
theorem strE_den {cx : Cx} {ρ : Env} (hρ : EnvOk cx ρ) (β : Bt) {x : SV} {e : E} (h : strE x = some e) : x.den ρ β = .string (strOf (e.ev ρ)) := by
  unfold strE at h
  split at h
  · cases h; rfl
  · split at h <;> cases h
    rename_i hb
    rw [strLit_den hρ hb]; rfl
  · cases h

/-- the number of what lies in a cell -/
def codeOf (cx : Cx) : CK → SV → Option E
  | .int k, .int k' e => if k = k' && ivIn (e.iv cx) (klo k) (khi k) then some e else none
  | .bool, .bool e => some e
  | .str, x => strE x
  | _, _ => none
theorem codeOf_den {cx : Cx} {ρ : Env} (hρ : EnvOk cx ρ) (β : Bt) {k : CK} {x : SV} {e : E} (h : codeOf cx k x = some e) : x.den ρ β = ckV k (e.ev ρ) := by
  unfold codeOf at h
  split at h
  · split at h <;> cases h
    rename_i hc
    simp only [Bool.and_eq_true, decide_eq_true_eq] at hc
    obtain ⟨rfl, hi⟩ := hc
    obtain ⟨a, b⟩ := ivIn_ok hi (E.iv_ok hρ _)
    simp only [SV.den, ckV, wrap_in _ _ a b]
  · cases h; rfl
  · exact strE_den hρ β h
  · cases h

def codeL (cx : Cx) : List CK → List SV → Option (List E)
  | [], [] => some []
  | k :: l, x :: m => match codeOf cx k x, codeL cx l m with
    | some e, some es => some (e :: es)
    | _, _ => none
  | _, _ => none
theorem codeL_den {cx : Cx} {ρ : Env} (hρ : EnvOk cx ρ) (β : Bt) : ∀ {l : List CK} {m : List SV} {es : List E}, codeL cx l m = some es →
    m.length = l.length ∧ es.length = l.length ∧ ∀ (r : Nat) (k : CK), l[r]? = some k → (SV.denL ρ β m)[r]? = (es[r]?).map fun (e : E) => ckV k (e.ev ρ)
  | [], [], es, h => by cases h; exact ⟨rfl, rfl, fun r k h => by simp at h⟩
  | k :: l, x :: m, es, h => by
    simp only [codeL] at h
    split at h
    · rename_i e es' he hes
      cases h
      obtain ⟨h1, h2, h3⟩ := codeL_den hρ β hes
      refine ⟨by simp [h1], by simp [h2], fun r k' hr => ?_⟩
      cases r with
      | zero => simp at hr; subst hr; simp [SV.denL, codeOf_den hρ β he]
      | succ r => simpa [SV.denL] using h3 r k' (by simpa using hr)
    · cases h
  | [], _ :: _, _, h => by cases h
  | _ :: _, [], _, h => by cases h

/-- the number of a part -/
def codeP (cx : Cx) (cks : List CK) (l : List SV) : Option E :=
  match cks, l with
  | [k], [x] => codeOf cx k x
  | cks, l => match cks with
    | [_] => none
    | _ => (codeL cx cks l).map listE
theorem codeP_den {cx : Cx} {ρ : Env} (hρ : EnvOk cx ρ) (β : Bt) {cks : List CK} {l : List SV} {e : E} (h : codeP cx cks l = some e) : SV.denL ρ β l = elemV cks (e.ev ρ) := by
  unfold codeP at h
  split at h
  · simp only [SV.denL, elemV, codeOf_den hρ β h]
  · split at h
    · cases h
    · rename_i h1 h2
      obtain ⟨es, hes, rfl⟩ := Option.map_eq_some_iff.1 h
      obtain ⟨g1, g2, g3⟩ := codeL_den hρ β hes
      have : elemV cks ((listE es).ev ρ) = elemF ((listE es).ev ρ) 0 cks := by
        unfold elemV
        split
        · exact absurd rfl (h2 _)
        · rfl
      rw [this]
      apply List.ext_getElem?
      intro r
      rw [elemF_get]
      cases hk : cks[r]? with
      | none =>
        have := List.getElem?_eq_none_iff.1 hk
        rw [List.getElem?_eq_none (by simp; omega)]; rfl
      | some k =>
        rw [g3 r k hk]
        have hlt := (List.getElem?_eq_some_iff.1 hk).1
        rw [List.getElem?_eq_getElem (by omega : r < es.length)]
        simp only [Option.map_some, Option.some.injEq]
        rw [Nat.zero_add, listE_ev hρ, List.getElem?_eq_getElem (by omega : r < es.length)]
        rfl

/-! ### two things held against each other -/

def andE (r r' : E) : E :=
  match r with
  | .c n => if n = 0 then .c 0 else r'
  | t => match r' with
    | .c n => if n = 0 then .c 0 else t
    | r' => .ite t r' (.c 0)
theorem andE_ev (ρ : Env) (r r' : E) : ((andE r r').ev ρ != 0) = ((r.ev ρ != 0) && (r'.ev ρ != 0)) := by
  unfold andE
  split
  · split
    · rename_i h; simp [E.ev, h]
    · rename_i h; simp [E.ev, h]
  · split
    · split
      · rename_i h; simp [E.ev, h]
      · rename_i h; simp [E.ev, h]
    · simp only [E.ev]
      split
      · rename_i h; simp [h]
      · rename_i h; simp at h; simp [h]

def eqFs (cx : Cx) (rec : TypeId → SV → SV → Option E) (l m : List SV) : List Field → Option E
  | [] => some (.c 1)
  | f :: fs => if f.name = "_" then eqFs cx rec l m fs else
    match partS cx f.type l f.offset, partS cx f.type m f.offset with
    | some a, some b => match rec f.type a b, eqFs cx rec l m fs with
      | some r, some r' => some (andE r r')
      | _, _ => none
    | _, _ => none

def eqIs (cx : Cx) (rec : TypeId → SV → SV → Option E) (e : TypeId) (z : Nat) (l m : List SV) : List Nat → Option E
  | [] => some (.c 1)
  | i :: is =>
    match partS cx e l (i * z), partS cx e m (i * z) with
    | some a, some b => match rec e a b, eqIs cx rec e z l m is with
      | some r, some r' => some (andE r r')
      | _, _ => none
    | _, _ => none

def eqS (cx : Cx) : Nat → TypeId → SV → SV → Option E
  | 0, _, _, _ => none
  | d + 1, t, x, y => match cx.und t with
    | some (.int _) => match x, y with
      | .int k e, .int k' e' => if k = k' then some (E.b' cx .eq k e e') else none
      | _, _ => none
    | some .bool => match x, y with
      | .bool e, .bool f => some (E.b' cx .eq .i64 (E.nt' e) (E.nt' f))
      | _, _ => none
    | some .string => match x, y with
      | .lit (.string a), .lit (.string b) => some (.c (bool01 (decide (a = b))))
      | x, y => match strE x, strE y with
        | some a, some b => some (.f 20 a b (.c 0))
        | _, _ => none
    | some (.struct fs) => match x, y with
      | .agg l, .agg m => if cx.seq t then eqFs cx (eqS cx d) l m fs.toList else none
      | _, _ => none
    | some (.array n e) => match x, y, szT cx e with
      | .agg l, .agg m, some z => eqIs cx (eqS cx d) e z l m (List.range n)
      | _, _, _ => none
    | _ => none

section
variable {cx : Cx} {ρ : Env} (hρ : EnvOk cx ρ) (β : Bt)
include hρ

def EqRec (cx : Cx) (ρ : Env) (β : Bt) (d : Nat) (rec : TypeId → SV → SV → Option E) : Prop :=
  ∀ (t : TypeId) (x y : SV) (r : E) (D : Nat) (w : World), rec t x y = some r → d ≤ D → (Op.equalIn D t (x.den ρ β) (y.den ρ β)).run cx.P w = .ok (r.ev ρ != 0) w

omit hρ in
theorem eqFs_ok {d : Nat} {rec : TypeId → SV → SV → Option E} (hr : EqRec cx ρ β d rec) (l m : List SV) (D : Nat) (w : World) (hD : d ≤ D) : ∀ (fs : List Field) {r : E}, eqFs cx rec l m fs = some r →
    (Op.eqFields D (SV.denL ρ β l).toArray (SV.denL ρ β m).toArray fs).run cx.P w = .ok (r.ev ρ != 0) w
  | [], r, h => by cases h; simp [Op.eqFields, E.ev]
  | f :: fs, r, h => by
    simp only [eqFs] at h
    split at h
    · rename_i hn
      have ih := eqFs_ok hr l m D w hD fs h
      simp [Op.eqFields, hn, ih]
    · rename_i hn
      split at h
      · rename_i a b ha hb
        split at h
        · rename_i r1 r2 h1 h2
          cases h
          have ih := eqFs_ok hr l m D w hD fs h2
          have e1 := hr _ _ _ _ D w h1 hD
          simp only [Op.eqFields, hn, ne_eq, not_false_eq_true, if_true, Sem.run_bind, partS_ok ha, partS_ok hb, Result.andThen_ok, e1, andE_ev]
          cases hh : (r1.ev ρ != 0)
          · simp
          · simp [ih]
        · cases h
      · cases h

omit hρ in
theorem eqIs_ok {d : Nat} {rec : TypeId → SV → SV → Option E} (hr : EqRec cx ρ β d rec) (e : TypeId) (z : Nat) (l m : List SV) (D : Nat) (w : World) (hD : d ≤ D) : ∀ (is : List Nat) {r : E}, eqIs cx rec e z l m is = some r →
    (Op.eqItems D e z (SV.denL ρ β l).toArray (SV.denL ρ β m).toArray is).run cx.P w = .ok (r.ev ρ != 0) w
  | [], r, h => by cases h; simp [Op.eqItems, E.ev]
  | i :: is, r, h => by
    simp only [eqIs] at h
    split at h
    · rename_i a b ha hb
      split at h
      · rename_i r1 r2 h1 h2
        cases h
        have ih := eqIs_ok hr e z l m D w hD is h2
        have e1 := hr _ _ _ _ D w h1 hD
        simp only [Op.eqItems, Sem.run_bind, partS_ok ha, partS_ok hb, Result.andThen_ok, e1, andE_ev]
        cases hh : (r1.ev ρ != 0)
        · simp
        · simp [ih]
      · cases h
    · cases h

theorem eqS_ok : ∀ (d : Nat), EqRec cx ρ β d (eqS cx d)
  | 0 => fun t x y r D w h _ => by cases h
  | d + 1 => by
    intro t x y r D w h hD
    obtain ⟨D, rfl⟩ : ∃ D', D = D' + 1 := ⟨D - 1, by omega⟩
    simp only [eqS] at h
    split at h
    · rename_i k0 hu
      split at h
      · split at h <;> cases h
        rename_i hk
        subst hk
        simp only [SV.den, run_equalIn_int w D t _ k0 _ _ (cx.undOk _ _ hu), E.b'_ev hρ, BO.ev, bool01_ne]
      · cases h
    · rename_i hu
      split at h
      · cases h
        rename_i e f
        have h1 : ∀ p q : Int, ((p != 0) == (q != 0)) = (bool01 (p == 0) == bool01 (q == 0)) := by
          intro p q
          unfold bne
          cases (p == 0) <;> cases (q == 0) <;> rfl
        simp only [SV.den, run_equalIn_bool' w D t _ _ (cx.undOk _ _ hu), E.b'_ev hρ, BO.ev, E.nt'_ev, bool01_ne, h1]
      · cases h
    · rename_i hu
      split at h
      · cases h
        rename_i a b
        simp only [SV.den, run_equalIn_string w D t _ _ (cx.undOk _ _ hu), E.ev, bool01_ne, ← beq_toListBytes, bytes_beq]
      · split at h
        · cases h
          rename_i a b ha hb
          rw [strE_den hρ β ha, strE_den hρ β hb]
          simp only [run_equalIn_string w D t _ _ (cx.undOk _ _ hu), E.ev, rho_f hρ (n := 20) (by omega) (by omega), fL, ← beq_toListBytes, seqZ, bytes_beq]
          congr 1
          by_cases hh : strOf (a.ev ρ) = strOf (b.ev ρ)
          · simp [hh]
          · simp [hh]
        · cases h
    · rename_i fs hu
      split at h
      · rename_i l m
        split at h
        · rename_i hs
          have hf : cx.P.fieldsOf t = fs := by simp [Program.fieldsOf, cx.undOk _ _ hu]
          simp only [SV.den]
          rw [run_equalIn_struct w D t _ _ (by rw [hf]; exact cx.undOk _ _ hu) (cx.seqOk t hs).2, hf]
          exact eqFs_ok β (eqS_ok d) l m D w (by omega) _ h
        · cases h
      · cases h
    · rename_i n e hu
      split at h
      · rename_i l m z hz
        obtain ⟨i, hi0, hi1⟩ := szT_info hz
        have hi := cx.infOk _ _ hi0
        have hc : cx.P.cellsOf e = z := by simp [Program.cellsOf, hi, hi1]
        simp only [SV.den]
        rw [run_equalIn_array w D _ _ (cx.undOk _ _ hu) hi, hc]
        exact eqIs_ok β (eqS_ok d) e z l m D w (by omega) _ h
      · cases h
    · cases h

end

end Go.Eng
