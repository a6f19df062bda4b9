/-
  Parts of the engine, a program's symbolic run, proved sound; and of plain laws.
-/
import Derived.Test.YtppkkgicidagmabGreatDoorGu1
import Derived.Laws.CopyRow
import Derived.Laws.IdiomCopy
import Derived.Laws.MakeOwn
import Derived.Laws.BytesArg
import Derived.Lib.ConvBytes
import Derived.MapKept
set_option linter.unusedVariables false
set_option linter.unusedSimpArgs false

/-!  -/
noncomputable section
namespace Go.Eng
def ckS (cx : Cx) : CK → E → SV
 | .int k, e => .int k (E.w' cx k e)
 | .bool, e => .bool e
 | .str, e => .str e
def elemFS (cx : Cx) (e : E) : Nat → List CK → List SV
 | _, [] => []
 | f, k :: l => ckS cx k (E.rdA e (.c f)) :: elemFS cx e (f + 1) l
def elemS (cx : Cx) (cks : List CK) (e : E) : List SV :=
 match cks with
 | [k] => [ckS cx k e]
 | cks => elemFS cx e 0 cks
section
variable {cx : Cx} {ρ : Env} (hρ : EnvOk cx ρ) (β : Bt)
include hρ
theorem ckS_den (k : CK) (e : E) : (ckS cx k e).den ρ β = ckV k (e.ev ρ) := by
 cases k <;> simp only [ckS, SV.den, ckV, E.w'_ev hρ]
theorem elemFS_den (e : E) : ∀ (l : List CK) (f : Nat), SV.denL ρ β (elemFS cx e f l) = qXn (e.ev ρ) f l
 | [], _ => rfl
 | k :: l, f => by simp only [elemFS, SV.denL, qXn, ckS_den hρ, E.rdA_ev hρ, E.ev, elemFS_den e l (f + 1)]
theorem elemS_den (cks : List CK) (e : E) : SV.denL ρ β (elemS cx cks e) = qQc cks (e.ev ρ) := by
 rcases cks with _ | ⟨k, _ | ⟨k2, l⟩⟩
 ·rfl
 ·simp only [elemS, qQc, SV.denL, ckS_den hρ]
 ·exact elemFS_den hρ β e _ _
end
theorem bytes_beq (a b : ByteArray) : (a == b) = decide (a = b) := by
 obtain ⟨⟨x⟩⟩ := a
 obtain ⟨⟨y⟩⟩ := b
 show ((⟨x⟩ : Array UInt8) == ⟨y⟩) = _
 by_cases h : x = y
 ·subst h; simp
 ·simp [h]
def qQr : List E → E
 | [] => .c 0
 | x :: l => .f 11 x (qQr l) (.c 0)
theorem qJo {cx : Cx} {ρ : Env} (hρ : EnvOk cx ρ) : ∀ (l : List E) (i : Nat), rdZ ((qQr l).ev ρ) i = ((l[i]?).map (E.ev ρ)).getD 0
 | [], i => by simp [qQr, E.ev, rdZ_nil]
 | x :: l, 0 => by
  simp only [qQr, E.ev, qZu hρ (n := 11) (by omega) (by omega), fL]
  exact qQy _ _
 | x :: l, i + 1 => by
  simp only [qQr, E.ev, qZu hρ (n := 11) (by omega) (by omega), fL]
  rw [qQh _ _ (by omega)]
  have := qJo hρ l i
  simp only [List.getElem?_cons_succ]
  rw [← this]
  congr 1
  omega
theorem listE_ev' {ρ : Env} (hρ : ∀ x y z, ρ.f 11 x y z = fL 11 x y z) : ∀ (l : List E) (i : Nat), rdZ ((qQr l).ev ρ) i = ((l[i]?).map (E.ev ρ)).getD 0
 | [], i => by simp [qQr, E.ev, rdZ_nil]
 | x :: l, 0 => by
  simp only [qQr, E.ev, hρ, fL]
  exact qQy _ _
 | x :: l, i + 1 => by
  simp only [qQr, E.ev, hρ, fL]
  rw [qQh _ _ (by omega)]
  have := listE_ev' hρ l i
  simp only [List.getElem?_cons_succ]
  rw [← this]
  congr 1
  omega
def strLit (b : ByteArray) : E := qQr [.c b.size, qQr (b.data.toList.map fun u => .c u.toNat)]
theorem strOf_eq {s : Int} {b : ByteArray} (h1 : rdZ s 0 = b.size) (h2 : b.size ≤ 1000000) (h3 : ∀ i : Nat, (h : i < b.size) → rdZ (rdZ s 1) i % 256 = (b.data[i]'h).toNat) : qQv s = b := by
 have hl : qZt s = b.size := by unfold qZt qKz; rw [h1]; split <;> (try split) <;> omega
 have : (qQv s).data = b.data := by
  apply Array.ext
  ·have := qZb s
   have e : ((qQv s).size : Int) = b.size := by rw [this, hl]
   have : (qQv s).size = b.size := by omega
   exact this
  ·intro i hi1 hi2
   have hib : i < b.size := hi2
   have h := strOf_get s i (by rw [hl]; omega)
   rw [Array.getElem?_eq_getElem hi1] at h
   rw [Option.some.inj h]
   have h4 := h3 i hib
   unfold qJf
   rw [h4, Int.toNat_natCast]
   simp
 cases hs : qQv s
 cases b
 simp_all
theorem strLit_den {cx : Cx} {ρ : Env} (hρ : EnvOk cx ρ) {b : ByteArray} (hb : b.size ≤ 1000000) : qQv ((strLit b).ev ρ) = b := by
 refine strOf_eq ?_ hb ?_
 ·have := qJo hρ [.c b.size, qQr (b.data.toList.map fun u => .c u.toNat)] 0
  simp only [List.getElem?_cons_zero, Option.map_some, Option.getD_some, E.ev] at this
  exact this
 ·intro i hi
  have h1 := qJo hρ [.c b.size, qQr (b.data.toList.map fun u => .c u.toNat)] 1
  simp only [List.getElem?_cons_succ, List.getElem?_cons_zero, Option.map_some, Option.getD_some] at h1
  have h1' : rdZ ((strLit b).ev ρ) 1 = (qQr (b.data.toList.map fun u => .c u.toNat)).ev ρ := h1
  rw [h1', qJo hρ]
  have hi' : i < b.data.size := hi
  simp only [List.getElem?_map, Array.getElem?_toList, Array.getElem?_eq_getElem hi', Option.map_some, E.ev, Option.getD_some]
  have := UInt8.toNat_lt b.data[i]
  omega
theorem strLit_den' {ρ : Env} (hρ : ∀ x y z, ρ.f 11 x y z = fL 11 x y z) {b : ByteArray} (hb : b.size ≤ 1000000) : qQv ((strLit b).ev ρ) = b := by
 refine strOf_eq ?_ hb ?_
 ·have := listE_ev' hρ [.c b.size, qQr (b.data.toList.map fun u => .c u.toNat)] 0
  simp only [List.getElem?_cons_zero, Option.map_some, Option.getD_some, E.ev] at this
  exact this
 ·intro i hi
  have h1 := listE_ev' hρ [.c b.size, qQr (b.data.toList.map fun u => .c u.toNat)] 1
  simp only [List.getElem?_cons_succ, List.getElem?_cons_zero, Option.map_some, Option.getD_some] at h1
  have h1' : rdZ ((strLit b).ev ρ) 1 = (qQr (b.data.toList.map fun u => .c u.toNat)).ev ρ := h1
  rw [h1', listE_ev' hρ]
  have hi' : i < b.data.size := hi
  simp only [List.getElem?_map, Array.getElem?_toList, Array.getElem?_eq_getElem hi', Option.map_some, E.ev, Option.getD_some]
  have := UInt8.toNat_lt b.data[i]
  omega
def strE : SV → Option E
 | .str e => some e
 | .lit (.string b) => if b.size ≤ 1000000 then some (strLit b) else none
 | _ => none
theorem qJm {cx : Cx} {ρ : Env} (hρ : EnvOk cx ρ) (β : Bt) {x : SV} {e : E} (h : strE x = some e) : x.den ρ β = .string (qQv (e.ev ρ)) := by
 unfold strE at h
 split at h
 ·cases h; rfl
 ·split at h <;> cases h
  rename_i hb
  rw [strLit_den hρ hb]; rfl
 ·cases h
def codeOf (cx : Cx) : CK → SV → Option E
 | .int k, .int k' e => if k = k' && ivIn (e.iv cx) (klo k) (khi k) then some e else none
 | .bool, .bool e => some e
 | .str, x => strE x
 | _, _ => none
theorem qYz {cx : Cx} {ρ : Env} (hρ : EnvOk cx ρ) (β : Bt) {k : CK} {x : SV} {e : E} (h : codeOf cx k x = some e) : x.den ρ β = ckV k (e.ev ρ) := by
 unfold codeOf at h
 split at h
 ·split at h <;> cases h
  rename_i hc
  simp only [Bool.and_eq_true, decide_eq_true_eq] at hc
  obtain ⟨rfl, hi⟩ := hc
  obtain ⟨a, b⟩ := ivIn_ok hi (E.iv_ok hρ _)
  simp only [SV.den, ckV, qXi _ _ a b]
 ·cases h; rfl
 ·exact qJm hρ β h
 ·cases h
def codeL (cx : Cx) : List CK → List SV → Option (List E)
 | [], [] => some []
 | k :: l, x :: m => match codeOf cx k x, codeL cx l m with
  | some e, some es => some (e :: es)
  | _, _ => none
 | _, _ => none
theorem codeL_den {cx : Cx} {ρ : Env} (hρ : EnvOk cx ρ) (β : Bt) : ∀ {l : List CK} {m : List SV} {es : List E}, codeL cx l m = some es →
  m.length = l.length ∧ es.length = l.length ∧ ∀ (r : Nat) (k : CK), l[r]? = some k → (SV.denL ρ β m)[r]? = (es[r]?).map fun (e : E) => ckV k (e.ev ρ)
 | [], [], es, h => by cases h; exact ⟨rfl, rfl, fun r k h => by simp at h⟩
 | k :: l, x :: m, es, h => by
  simp only [codeL] at h
  split at h
  ·rename_i e es' he hes
   cases h
   obtain ⟨h1, h2, h3⟩ := codeL_den hρ β hes
   refine ⟨by simp [h1], by simp [h2], fun r k' hr => ?_⟩
   cases r with
   | zero => simp at hr; subst hr; simp [SV.denL, qYz hρ β he]
   | succ r => simpa [SV.denL] using h3 r k' (by simpa using hr)
  ·cases h
 | [], _ :: _, _, h => by cases h
 | _ :: _, [], _, h => by cases h
def codeP (cx : Cx) (cks : List CK) (l : List SV) : Option E :=
 match cks, l with
 | [k], [x] => codeOf cx k x
 | cks, l => match cks with
  | [_] => none
  | _ => (codeL cx cks l).map qQr
theorem codeP_den {cx : Cx} {ρ : Env} (hρ : EnvOk cx ρ) (β : Bt) {cks : List CK} {l : List SV} {e : E} (h : codeP cx cks l = some e) : SV.denL ρ β l = qQc cks (e.ev ρ) := by
 unfold codeP at h
 split at h
 ·simp only [SV.denL, qQc, qYz hρ β h]
 ·split at h
  ·cases h
  ·rename_i h1 h2
   obtain ⟨es, hes, rfl⟩ := Option.map_eq_some_iff.1 h
   obtain ⟨g1, g2, g3⟩ := codeL_den hρ β hes
   have : qQc cks ((qQr es).ev ρ) = qXn ((qQr es).ev ρ) 0 cks := by
    unfold qQc
    split
    ·exact absurd rfl (h2 _)
    ·rfl
   rw [this]
   apply List.ext_getElem?
   intro r
   rw [qJi]
   cases hk : cks[r]? with
   | none =>
    have := List.getElem?_eq_none_iff.1 hk
    rw [List.getElem?_eq_none (by simp; omega)]; rfl
   | some k =>
    rw [g3 r k hk]
    have hlt := (List.getElem?_eq_some_iff.1 hk).1
    rw [List.getElem?_eq_getElem (by omega : r < es.length)]
    simp only [Option.map_some, Option.some.injEq]
    rw [Nat.zero_add, qJo hρ, List.getElem?_eq_getElem (by omega : r < es.length)]
    rfl
def andE (r r' : E) : E :=
 match r with
 | .c n => if n = 0 then .c 0 else r'
 | t => match r' with
  | .c n => if n = 0 then .c 0 else t
  | r' => .ite t r' (.c 0)
theorem andE_ev (ρ : Env) (r r' : E) : ((andE r r').ev ρ != 0) = ((r.ev ρ != 0) && (r'.ev ρ != 0)) := by
 unfold andE
 split
 ·split
  ·rename_i h; simp [E.ev, h]
  ·rename_i h; simp [E.ev, h]
 ·split
  ·split
   ·rename_i h; simp [E.ev, h]
   ·rename_i h; simp [E.ev, h]
  ·simp only [E.ev]
   split
   ·rename_i h; simp [h]
   ·rename_i h; simp at h; simp [h]
def eqFs (cx : Cx) (rec : TypeId → SV → SV → Option E) (l m : List SV) : List Field → Option E
 | [] => some (.c 1)
 | f :: fs => if f.name = "_" then eqFs cx rec l m fs else
  match partS cx f.type l f.offset, partS cx f.type m f.offset with
  | some a, some b => match rec f.type a b, eqFs cx rec l m fs with
   | some r, some r' => some (andE r r')
   | _, _ => none
  | _, _ => none
def eqIs (cx : Cx) (rec : TypeId → SV → SV → Option E) (e : TypeId) (z : Nat) (l m : List SV) : List Nat → Option E
 | [] => some (.c 1)
 | i :: is =>
  match partS cx e l (i * z), partS cx e m (i * z) with
  | some a, some b => match rec e a b, eqIs cx rec e z l m is with
   | some r, some r' => some (andE r r')
   | _, _ => none
  | _, _ => none
def eqS (cx : Cx) : Nat → TypeId → SV → SV → Option E
 | 0, _, _, _ => none
 | d + 1, t, x, y => match cx.und t with
  | some (.int _) => match x, y with
   | .int k e, .int k' e' => if k = k' then some (E.b' cx .eq k e e') else none
   | _, _ => none
  | some .bool => match x, y with
   | .bool e, .bool f => some (E.b' cx .eq .i64 (E.nt' e) (E.nt' f))
   | _, _ => none
  | some .string => match x, y with
   | .lit (.string a), .lit (.string b) => some (.c (qQj (decide (a = b))))
   | x, y => match strE x, strE y with
    | some a, some b => some (if a.beq b then .c 1 else .f 20 a b (.c 0))
    | _, _ => none
  | some (.struct fs) => match x, y with
   | .agg l, .agg m => if cx.seq t then eqFs cx (eqS cx d) l m fs.toList else none
   | _, _ => none
  | some (.array n e) => match x, y, szT cx e with
   | .agg l, .agg m, some z => eqIs cx (eqS cx d) e z l m (List.range n)
   | _, _, _ => none
  | _ => none
section
variable {cx : Cx} {ρ : Env} (hρ : EnvOk cx ρ) (β : Bt)
include hρ
def EqRec (cx : Cx) (ρ : Env) (β : Bt) (d : Nat) (rec : TypeId → SV → SV → Option E) : Prop :=
 ∀ (t : TypeId) (x y : SV) (r : E) (D : Nat) (w : World), rec t x y = some r → d ≤ D → (Op.equalIn D t (x.den ρ β) (y.den ρ β)).run cx.P w = .ok (r.ev ρ != 0) w
omit hρ in
theorem eqFs_ok {d : Nat} {rec : TypeId → SV → SV → Option E} (hr : EqRec cx ρ β d rec) (l m : List SV) (D : Nat) (w : World) (hD : d ≤ D) : ∀ (fs : List Field) {r : E}, eqFs cx rec l m fs = some r →
  (Op.eqFields D (SV.denL ρ β l).toArray (SV.denL ρ β m).toArray fs).run cx.P w = .ok (r.ev ρ != 0) w
 | [], r, h => by cases h; simp [Op.eqFields, E.ev]
 | f :: fs, r, h => by
  simp only [eqFs] at h
  split at h
  ·rename_i hn
   have ih := eqFs_ok hr l m D w hD fs h
   simp [Op.eqFields, hn, ih]
  ·rename_i hn
   split at h
   ·rename_i a b ha hb
    split at h
    ·rename_i r1 r2 h1 h2
     cases h
     have ih := eqFs_ok hr l m D w hD fs h2
     have e1 := hr _ _ _ _ D w h1 hD
     simp only [Op.eqFields, hn, ne_eq, not_false_eq_true, if_true, Sem.run_bind, partS_ok ha, partS_ok hb, Result.andThen_ok, e1, andE_ev]
     cases hh : (r1.ev ρ != 0)
     ·simp
     ·simp [ih]
    ·cases h
   ·cases h
omit hρ in
theorem eqIs_ok {d : Nat} {rec : TypeId → SV → SV → Option E} (hr : EqRec cx ρ β d rec) (e : TypeId) (z : Nat) (l m : List SV) (D : Nat) (w : World) (hD : d ≤ D) : ∀ (is : List Nat) {r : E}, eqIs cx rec e z l m is = some r →
  (Op.eqItems D e z (SV.denL ρ β l).toArray (SV.denL ρ β m).toArray is).run cx.P w = .ok (r.ev ρ != 0) w
 | [], r, h => by cases h; simp [Op.eqItems, E.ev]
 | i :: is, r, h => by
  simp only [eqIs] at h
  split at h
  ·rename_i a b ha hb
   split at h
   ·rename_i r1 r2 h1 h2
    cases h
    have ih := eqIs_ok hr e z l m D w hD is h2
    have e1 := hr _ _ _ _ D w h1 hD
    simp only [Op.eqItems, Sem.run_bind, partS_ok ha, partS_ok hb, Result.andThen_ok, e1, andE_ev]
    cases hh : (r1.ev ρ != 0)
    ·simp
    ·simp [ih]
   ·cases h
  ·cases h
theorem eqS_ok : ∀ (d : Nat), EqRec cx ρ β d (eqS cx d)
 | 0 => fun t x y r D w h _ => by cases h
 | d + 1 => by
  intro t x y r D w h hD
  obtain ⟨D, rfl⟩ : ∃ D', D = D' + 1 := ⟨D - 1, by omega⟩
  simp only [eqS] at h
  split at h
  ·rename_i k0 hu
   split at h
   ·split at h <;> cases h
    rename_i hk
    subst hk
    simp only [SV.den, run_equalIn_int w D t _ k0 _ _ (cx.undOk _ _ hu), E.b'_ev hρ, BO.ev, qZm]
   ·cases h
  ·rename_i hu
   split at h
   ·cases h
    rename_i e f
    have h1 : ∀ p q : Int, ((p != 0) == (q != 0)) = (qQj (p == 0) == qQj (q == 0)) := by
     intro p q
     unfold bne
     cases (p == 0) <;> cases (q == 0) <;> rfl
    simp only [SV.den, run_equalIn_bool' w D t _ _ (cx.undOk _ _ hu), E.b'_ev hρ, BO.ev, E.nt'_ev, qZm, h1]
   ·cases h
  ·rename_i hu
   split at h
   ·cases h
    rename_i a b
    simp only [SV.den, run_equalIn_string w D t _ _ (cx.undOk _ _ hu), E.ev, qZm, ← beq_toListBytes, bytes_beq]
   ·split at h
    ·cases h
     rename_i a b ha hb
     rw [qJm hρ β ha, qJm hρ β hb]
     have hev : (if a.beq b then E.c 1 else .f 20 a b (.c 0)).ev ρ = seqZ (a.ev ρ) (b.ev ρ) := by
      split
      ·rename_i hb
       rw [E.eq_of_beq hb]
       unfold seqZ; rw [if_pos rfl]; rfl
      ·simp only [E.ev, qZu hρ (n := 20) (by omega) (by omega), fL]
     rw [hev]
     simp only [run_equalIn_string w D t _ _ (cx.undOk _ _ hu), ← beq_toListBytes, seqZ, bytes_beq]
     congr 1
     by_cases hh : qQv (a.ev ρ) = qQv (b.ev ρ)
     ·simp [hh]
     ·simp [hh]
    ·cases h
  ·rename_i fs hu
   split at h
   ·rename_i l m
    split at h
    ·rename_i hs
     have hf : cx.P.fieldsOf t = fs := by simp [Program.fieldsOf, cx.undOk _ _ hu]
     simp only [SV.den]
     rw [run_equalIn_struct w D t _ _ (by rw [hf]; exact cx.undOk _ _ hu) (cx.seqOk t hs).2, hf]
     exact eqFs_ok β (eqS_ok d) l m D w (by omega) _ h
    ·cases h
   ·cases h
  ·rename_i n e hu
   split at h
   ·rename_i l m z hz
    obtain ⟨i, hi0, hi1⟩ := szT_info hz
    have hi := cx.infOk _ _ hi0
    have hc : cx.P.cellsOf e = z := by simp [Program.cellsOf, hi, hi1]
    simp only [SV.den]
    rw [run_equalIn_array w D _ _ (cx.undOk _ _ hu) hi, hc]
    exact eqIs_ok β (eqS_ok d) e z l m D w (by omega) _ h
   ·cases h
  ·cases h
end
end Go.Eng
end

/-!  -/
noncomputable section
namespace Go.Eng
def obl {α : Type} (s : St) (e : E) (k : St → T α) : T α := fork s e k (fun _ => .bad 200)
theorem qQk {ρ : Env} {β : Bt} {s : St} {w : World} (h : Sat ρ β s w) {α : Type} {e : E} {k : St → T α} {r : α} (hr : (obl s e k).sel ρ = some r) :
  ∃ s1, s1.bl = s.bl ∧ Sat ρ β s1 w ∧ e.ev ρ ≠ 0 ∧ (k s1).sel ρ = some r := by
 obtain ⟨s1, h1, h2, ⟨h3, h4⟩ | ⟨_, h4⟩⟩ := qKk h hr
 ·exact ⟨s1, h1, h2, h3, h4⟩
 ·cases h4
def leE (cx : Cx) (x y : E) : E := E.b' cx .le .i64 x y
def ltE (cx : Cx) (x y : E) : E := E.b' cx .lt .i64 x y
def addE (x y : E) : E := E.pl .padd x y
def subE (x y : E) : E := E.pl .psub x y
section
variable {cx : Cx} {ρ : Env} (hρ : EnvOk cx ρ)
include hρ
theorem qQw {x y : E} (h : (leE cx x y).ev ρ ≠ 0) : x.ev ρ ≤ y.ev ρ := by
 unfold leE at h; rw [E.b'_ev hρ] at h; simp only [BO.ev, qQj] at h
 by_cases hh : x.ev ρ ≤ y.ev ρ
 ·exact hh
 ·simp [hh] at h
theorem qJh {x y : E} (h : (ltE cx x y).ev ρ ≠ 0) : x.ev ρ < y.ev ρ := by
 unfold ltE at h; rw [E.b'_ev hρ] at h; simp only [BO.ev, qQj] at h
 by_cases hh : x.ev ρ < y.ev ρ
 ·exact hh
 ·simp [hh] at h
omit hρ in
theorem qJx (x y : E) : (addE x y).ev ρ = x.ev ρ + y.ev ρ := E.pl_ev _ _ _ _
omit hρ in
theorem subE_ev (x y : E) : (subE x y).ev ρ = x.ev ρ - y.ev ρ := E.pl_ev _ _ _ _
end
def qKv (cx : Cx) (s : St) : Bs → Option (List CK × E × E)
 | .own j => match s.bl[j]? with
  | some (.arr cks _ q n) => some (cks, q, n)
  | _ => none
 | .inp k => match cx.ins[k]? with
  | some d => some (d.cks, d.c, d.n)
  | none => none
def qJc (ρ : Env) (β : Bt) : Bs → Option Addr
 | .own j => if (β j).2.1 = 0 then none else some ⟨(β j).1, 0, none⟩
 | .inp k => (ρ.ro k).a
def slCap (ρ : Env) (β : Bt) (b : Bs) (off : E) (cap : Option E) : Nat :=
 match cap with
 | some q => (match b with
  | .own j => (match qKy q with
   | some _ => (β j).2.1 - 1 - (off.ev ρ).toNat
   | none => (q.ev ρ).toNat)
  | .inp _ => (q.ev ρ).toNat)
 | none => match b with
  | .own j => (β j).2.1 - 1 - (off.ev ρ).toNat
  | .inp k => (ρ.ro k).cap
def qKf (ρ : Env) (β : Bt) (b : Bs) (z : Nat) (off : E) (cap : Option E) : Nat :=
 match cap with
 | some q => (match b with
  | .own j => (match qKy q with
   | some e => if (β j).2.1 - 1 = (off.ev ρ).toNat then min (e.ev ρ).toNat (off.ev ρ).toNat * z else (off.ev ρ).toNat * z
   | none => (off.ev ρ).toNat * z)
  | .inp _ => (off.ev ρ).toNat * z)
 | none => match b with
  | .own j => if (β j).2.1 - 1 = (off.ev ρ).toNat then 0 else (off.ev ρ).toNat * z
  | .inp _ => (off.ev ρ).toNat * z
theorem slOff_zero (ρ : Env) (β : Bt) (b : Bs) (z : Nat) (cap : Option E) : qKf ρ β b z (.c 0) cap = 0 := by
 unfold qKf
 cases cap with
 | none => cases b <;> simp [E.ev]
 | some q => cases b with
  | own j => simp only [E.ev, Int.toNat_zero, Nat.zero_mul]; cases qKy q <;> simp
  | inp k => simp [E.ev]
theorem qXk (ρ : Env) (β : Bt) (b : Bs) (z : Nat) (off len : E) (cap : Option E) :
  (SV.sl b z off len cap).den ρ β = .slice ((qJc ρ β b).map (·.add (qKf ρ β b z off cap))) (len.ev ρ).toNat (slCap ρ β b off cap) := by
 cases b with
 | own j =>
  simp only [SV.den, qJc, slCap, qKf]
  split
  ·rfl
  ·simp only [Option.map_some, qQu, Nat.zero_add]
   cases cap with
   | none => rfl
   | some q => dsimp only; cases qKy q <;> rfl
 | inp k =>
  simp only [SV.den, qJc, slCap, qKf]
  cases cap <;> rfl
theorem qKc (ρ : Env) (β : Bt) (b : Bs) (z : Nat) (i : E) (f : Nat) {a : Addr} (h : qJc ρ β b = some a) :
  (SV.ep b z i f).den ρ β = .pointer (some (a.add ((i.ev ρ).toNat * z + f))) := by
 cases b with
 | own j =>
  simp only [qJc] at h
  split at h <;> cases h
  simp only [SV.den, qQu, Nat.zero_add]
 | inp k => simp only [qJc] at h; simp only [SV.den, h, Option.map_some]
theorem qJj (a : Addr) (m n : Nat) : (a.add m).add n = a.add (m + n) := by
 unfold Addr.add
 by_cases h1 : m = 0 <;> by_cases h2 : n = 0 <;> simp [h1, h2, Nat.add_assoc]
theorem qJr {cx : Cx} {ρ : Env} (hρ : EnvOk cx ρ) {β : Bt} {s : St} {w : World} (hs : Sat ρ β s w) {b : Bs} {cks : List CK} {q n : E} (h : qKv cx s b = some (cks, q, n)) {i : Nat} (hi : i < (n.ev ρ).toNat) :
  ∃ a, qJc ρ β b = some a ∧ ∀ (r : Nat) (x : Value), (qQc cks (rdZ (q.ev ρ) i))[r]? = some x → w.cell? (a.add (i * cks.length + r)) = some x := by
 have hget : ∀ (r : Nat) (x : Value), (qQc cks (rdZ (q.ev ρ) i))[r]? = some x → (rowV cks (q.ev ρ) (n.ev ρ).toNat)[i * cks.length + r]? = some x := by
  intro r x hx
  have hr : r < cks.length := by
   have := (List.getElem?_eq_some_iff.1 hx).1
   rwa [qQd] at this
  rw [qKw cks (q.ev ρ) hi hr]; exact hx
 cases b with
 | own j =>
  simp only [qKv] at h
  split at h
  ·rename_i cks' e q' n' hj
   cases h
   have hb := hs.blk j _ hj
   rcases hb with ⟨_, h0⟩ | ⟨tl, h1, ⟨mk, _, h2⟩, h3, h4⟩
   ·omega
   ·refine ⟨⟨(β j).1, 0, none⟩, by simp only [qJc]; rw [if_neg (by omega)], fun r x hx => ?_⟩
    rw [qQu, Nat.zero_add]
    simp only [World.cell?, h2, Option.isSome_none, Bool.false_eq_true, if_false, List.getElem?_toArray]
    have hg := hget r x hx
    rw [List.getElem?_append_left ((List.getElem?_eq_some_iff.1 hg).1)]
    exact hg
  ·cases h
 | inp k =>
  simp only [qKv] at h
  split at h
  ·rename_i d hd
   cases h
   obtain ⟨h1, h2, h3, _, h5, _⟩ := hρ.hro k d hd
   cases ha : (ρ.ro k).a with
   | none => have := h5 ha; omega
   | some a =>
    refine ⟨a, by simp only [qJc, ha], fun r x hx => ?_⟩
    have hg := hget r x hx
    rw [← h1, ← h2, ← h3] at hg
    have := roc_cell (hs.ro k a _ x ha (roV_row hg)).1
    rwa [h1] at this
  ·cases h
theorem slOff_in {cx : Cx} {ρ : Env} {β : Bt} {s : St} {w : World} (hs : Sat ρ β s w) {b : Bs} {cks : List CK} {q n : E} (h : qKv cx s b = some (cks, q, n)) {off : E} (hi : (off.ev ρ).toNat < (n.ev ρ).toNat) (cap : Option E) :
  qKf ρ β b cks.length off cap = (off.ev ρ).toNat * cks.length := by
 cases b with
 | inp k => cases cap <;> rfl
 | own j =>
  have hne : cks.length ≠ 0 → (β j).2.1 - 1 ≠ (off.ev ρ).toNat := by
   intro hz
   simp only [qKv] at h
   split at h
   ·rename_i cks' e q' n' hj
    cases h
    rcases hs.blk j _ hj with ⟨_, h0⟩ | ⟨tl, h1, _, h3, _⟩
    ·omega
    ·rw [List.length_append, qQi] at h3
     have hle : (n.ev ρ).toNat * cks.length ≤ ((β j).2.1 - 1) * cks.length := by omega
     have := Nat.le_of_mul_le_mul_right hle (Nat.pos_of_ne_zero hz)
     omega
   ·cases h
  by_cases hz : cks.length = 0
  ·rw [hz]
   unfold qKf
   cases cap with
   | none => simp
   | some q => dsimp only; cases qKy q <;> simp
  ·have := hne hz
   unfold qKf
   cases cap with
   | none => dsimp only; rw [if_neg this]
   | some q => dsimp only; cases qKy q <;> dsimp only; rw [if_neg this]
def findG (g : Nat) : List InD → Nat → Option Nat
 | [], _ => none
 | d :: l, k => if d.g = some g then some k else findG g l (k + 1)
theorem findG_ok {g : Nat} : ∀ {l : List InD} {k0 k : Nat}, findG g l k0 = some k → ∃ d, l[k - k0]? = some d ∧ k0 ≤ k ∧ d.g = some g
 | [], _, _, h => by cases h
 | d :: l, k0, k, h => by
  simp only [findG] at h
  split at h
  ·rename_i hd
   cases h
   exact ⟨d, by simp, Nat.le_refl _, hd⟩
  ·obtain ⟨d', h1, h2, h3⟩ := findG_ok h
   refine ⟨d', ?_, by omega, h3⟩
   rw [show k - k0 = (k - (k0 + 1)) + 1 by omega]
   simpa using h1
def flatX (e : E) (z f : Nat) (i : E) : E := .b .padd .i64 (.b .pmul .i64 e (.c z)) (.b .padd .i64 (.c f) i)
def unflX : SV → Option (Bs × Nat × E × E)
 | .ep b 1 (.b .padd .i64 (.b .pmul .i64 i (.c z)) j) 0 => some (b, z.toNat, i, j)
 | _ => none
theorem unflX_ok {x : SV} {b : Bs} {z : Nat} {i j : E} (h : unflX x = some (b, z, i, j)) : ∃ z' : Int, z = z'.toNat ∧ x = .ep b 1 (.b .padd .i64 (.b .pmul .i64 i (.c z')) j) 0 := by
 unfold unflX at h
 split at h
 ·cases h; exact ⟨_, rfl, rfl⟩
 ·cases h
def iaddrT (cx : Cx) (t : TypeId) (x ix : SV) (s : St) : R :=
 match cx.und t, x, ix with
 | some (.slice el), .sl b z off len _, .int _ i =>
  (match qKv cx s b with
  | some (cks, _, n) =>
   if szT cx el = some z && cks.length == z && lo0 (off.iv cx) then
    obl s (leE cx (.c 0) i) fun s => obl s (ltE cx i len) fun s => obl s (ltE cx (addE off i) n) fun s => ret s (.ep b z (addE off i) 0)
   else .bad 201
  | none => .bad 202)
 | some (.array len el), .lit (.pointer (some ⟨g, 0, none⟩)), .int _ i =>
  (match findG g cx.ins 0 with
  | some k => if szT cx el = some 1 then
    obl s (leE cx (.c 0) i) fun s => obl s (ltE cx i (.c len)) fun s => ret s (.ep (.inp k) 1 i 0)
   else .bad 203
  | none => .bad 204)
 | some (.array len el), .ep b z e f, .int _ i =>
  (match constE i, qKv cx s b, szT cx el with
  | some c, some (_, _, n), some m => if decide (0 ≤ c) && decide (c < (len : Int)) then
    obl s (leE cx (.c 0) e) fun s => obl s (ltE cx e n) fun s => ret s (.ep b z e (f + c.toNat * m)) else .bad 208
  | none, some (_, _, n), some 1 => obl s (leE cx (.c 0) e) fun s => obl s (ltE cx e n) fun s => obl s (leE cx (.c 0) i) fun s => obl s (ltE cx i (.c len)) fun s => ret s (.ep b 1 (flatX e z f i) 0)
  | _, _, _ => .bad 209)
 | some (.array len el), .ptr j off, .int _ i =>
  (match constE i with
  | some _ => (match iaddrS cx t x ix with
   | some v => ret s v
   | none => .bad 205)
  | none => match szT cx el with
   | some z => obl s (leE cx (.c 0) i) fun s => obl s (ltE cx i (.c len)) fun s => ret s (.cp j off z len i 0)
   | none => .bad 206)
 | some (.slice el), .slice j off n _, .int _ i =>
  (match constE i with
  | some _ => (match iaddrS cx t x ix with
   | some v => ret s v
   | none => .bad 205)
  | none => match szT cx el with
   | some z => obl s (leE cx (.c 0) i) fun s => obl s (ltE cx i (.c n)) fun s => ret s (.cp j off z n i 0)
   | none => .bad 206)
 | _, _, _ => (match iaddrS cx t x ix with
   | some v => ret s v
   | none => .bad 207)
theorem qJd {s s1 : St} (e : s1.bl = s.bl) (β : Bt) (w : World) : Ext s s1 β β w w := by
 have hl : ∀ j, live β s1 j ↔ live β s j := fun j => by unfold live; rw [e]
 exact ⟨fun _ _ => rfl, fun j _ h => (hl j).1 h, fun j hj h => absurd (qQt ((hl j).1 h)) (by omega), Nat.le_refl _, fun _ _ _ => rfl, by rw [e]; exact Nat.le_refl _, rfl, rfl, rfl⟩
def LookOk (cx : Cx) (ρ : Env) (β : Bt) (s s' : St) (w : World) (m : Sem Value) (v : SV) : Prop :=
 m.run cx.P w = .ok (v.den ρ β) w ∧ s'.bl = s.bl ∧ Sat ρ β s' w
section
variable {cx : Cx} {ρ : Env} (hρ : EnvOk cx ρ) {β : Bt} {s s' : St} {w : World}
include hρ
theorem iaddrT_ok (hs : Sat ρ β s w) {t : TypeId} {X I v : SV} (h : (iaddrT cx t X I s).sel ρ = some (v, s')) :
  LookOk cx ρ β s s' w (Instr.indexAt t (X.den ρ β) (I.den ρ β)) v := by
 have old : ∀ {u}, (match iaddrS cx t X I with
   | some v => ret s v
   | none => (.bad u : R)).sel ρ = some (v, s') → LookOk cx ρ β s s' w (Instr.indexAt t (X.den ρ β) (I.den ρ β)) v := by
  intro u h
  split at h
  ·rename_i r hr
   cases h
   exact ⟨iaddrS_ok hr, rfl, hs⟩
  ·cases h
 unfold iaddrT at h
 split at h
 ·rename_i el b z off len cap k i hu
  split at h
  ·rename_i cks q n hrow
   split at h
   ·rename_i hc
    simp only [Bool.and_eq_true, decide_eq_true_eq, beq_iff_eq] at hc
    obtain ⟨⟨hz, hzl⟩, hoff⟩ := hc
    obtain ⟨s1, e1, hs1, h1, h⟩ := qQk hs h
    obtain ⟨s2, e2, hs2, h2, h⟩ := qQk hs1 h
    obtain ⟨s3, e3, hs3, h3, h⟩ := qQk hs2 h
    cases h
    have g1 := qQw hρ h1
    have g2 := qJh hρ h2
    have g3 := qJh hρ h3
    have g0 := lo0_ok hoff (E.iv_ok hρ off)
    simp only [E.ev] at g1
    rw [qJx] at g3
    obtain ⟨a, ha, _⟩ := qJr hρ hs hrow (i := ((addE off i).ev ρ).toNat) (by rw [qJx]; omega)
    refine ⟨?_, e3.trans (e2.trans e1), hs3⟩
    rw [qXk ρ β b z off len cap, qKc ρ β b z _ 0 ha, ha]
    simp only [SV.den, Instr.indexAt, asIntOf, Sem.run_bind, Sem.run_pure, Result.andThen_ok, qQx hu, Option.map_some, qQz hz]
    have hb : (0 : Int) ≤ i.ev ρ ∧ i.ev ρ < ((len.ev ρ).toNat : Int) := by omega
    rw [if_pos hb]
    simp only [Sem.run_bind, qQz hz, Result.andThen_ok, Sem.run_pure, qJj, qJx]
    have ho : qKf ρ β b z off cap = (off.ev ρ).toNat * z := by subst hzl; exact slOff_in hs hrow (by omega) cap
    congr 4
    rw [ho, Int.toNat_add g0 g1, Nat.add_mul, Nat.add_zero]
   ·cases h
  ·cases h
 ·rename_i len el g k i hu
  split at h
  ·rename_i kk hk
   split at h
   ·rename_i hz
    obtain ⟨s1, e1, hs1, h1, h⟩ := qQk hs h
    obtain ⟨s2, e2, hs2, h2, h⟩ := qQk hs1 h
    cases h
    have g1 := qQw hρ h1
    have g2 := qJh hρ h2
    simp only [E.ev] at g1 g2
    obtain ⟨d, hd, _, hg⟩ := findG_ok hk
    obtain ⟨_, _, _, _, _, h6⟩ := hρ.hro kk d (by simpa using hd)
    refine ⟨?_, e2.trans e1, hs2⟩
    rw [qKc ρ β (.inp kk) 1 i 0 (a := ⟨g, 0, none⟩) (by simp only [qJc, (h6 g hg).1])]
    simp only [SV.den, Instr.indexAt, asIntOf, Sem.run_bind, Sem.run_pure, Result.andThen_ok, qQx hu, Instr.sureAddr, qQz hz]
    rw [if_pos ⟨g1, g2⟩]
    simp [qQz hz]
   ·cases h
  ·cases h
 ·rename_i len el b z e f k i hu
  split at h
  ·rename_i c cks q n m hc hrow hm
   split at h
   ·rename_i hc2
    simp only [Bool.and_eq_true, decide_eq_true_eq] at hc2
    obtain ⟨c0, c1⟩ := hc2
    obtain ⟨s1, e1, hs1, h1, h⟩ := qQk hs h
    obtain ⟨s2, e2, hs2, h2, h⟩ := qQk hs1 h
    cases h
    have g1 := qQw hρ h1
    have g2 := qJh hρ h2
    simp only [E.ev] at g1
    have hci := qZi hc
    obtain ⟨a, ha, _⟩ := qJr hρ hs hrow (i := (e.ev ρ).toNat) (by omega)
    refine ⟨?_, e2.trans e1, hs2⟩
    rw [qKc ρ β b z e f ha, qKc ρ β b z e _ ha]
    subst hci
    simp only [SV.den, E.ev, Instr.indexAt, asIntOf, Sem.run_bind, Sem.run_pure, Result.andThen_ok, qQx hu, Instr.sureAddr, qQz hm]
    rw [if_pos ⟨c0, c1⟩]
    simp [qQz hm, qJj, Nat.add_assoc]
   ·cases h
  ·rename_i cks q n hc hrow hm
   obtain ⟨s1, e1, hs1, h1, h⟩ := qQk hs h
   obtain ⟨s2, e2, hs2, h2, h⟩ := qQk hs1 h
   obtain ⟨s3, e3, hs3, h3, h⟩ := qQk hs2 h
   obtain ⟨s4, e4, hs4, h4, h⟩ := qQk hs3 h
   cases h
   have g1 := qQw hρ h1
   have g2 := qJh hρ h2
   have g3 := qQw hρ h3
   have g4 := qJh hρ h4
   simp only [E.ev] at g1 g3 g4
   obtain ⟨a, ha, _⟩ := qJr hρ hs hrow (i := (e.ev ρ).toNat) (by omega)
   refine ⟨?_, e4.trans (e3.trans (e2.trans e1)), hs4⟩
   rw [qKc ρ β b z e f ha, qKc ρ β b 1 _ 0 ha]
   simp only [SV.den, Instr.indexAt, asIntOf, Sem.run_bind, Sem.run_pure, Result.andThen_ok, qQx hu, Instr.sureAddr, qQz hm]
   rw [if_pos ⟨g3, g4⟩]
   have hflat : ((flatX e z f i).ev ρ).toNat = (e.ev ρ).toNat * z + (f + (i.ev ρ).toNat) := by
    obtain ⟨E', hE⟩ : ∃ E' : Nat, e.ev ρ = E' := ⟨(e.ev ρ).toNat, by omega⟩
    obtain ⟨I', hI⟩ : ∃ I' : Nat, i.ev ρ = I' := ⟨(i.ev ρ).toNat, by omega⟩
    simp only [flatX, E.ev, BO.ev, hE, hI, Int.toNat_natCast]
    omega
   simp [qQz hm, qJj, hflat, Nat.add_assoc]
  ·cases h
 ·rename_i len el j off k i hu
  split at h
  ·exact old h
  ·split at h
   ·rename_i z hz
    obtain ⟨s1, e1, hs1, h1, h⟩ := qQk hs h
    obtain ⟨s2, e2, hs2, h2, h⟩ := qQk hs1 h
    cases h
    have g1 := qQw hρ h1
    have g2 := qJh hρ h2
    simp only [E.ev] at g1 g2
    refine ⟨?_, e2.trans e1, hs2⟩
    simp only [SV.den, Instr.indexAt, asIntOf, Sem.run_bind, Sem.run_pure, Result.andThen_ok, qQx hu, Instr.sureAddr, qQz hz]
    rw [if_pos ⟨g1, g2⟩]
    simp [qQz hz, qQu]
   ·cases h
 ·rename_i el j off n cp k i hu
  split at h
  ·exact old h
  ·split at h
   ·rename_i z hz
    obtain ⟨s1, e1, hs1, h1, h⟩ := qQk hs h
    obtain ⟨s2, e2, hs2, h2, h⟩ := qQk hs1 h
    cases h
    have g1 := qQw hρ h1
    have g2 := qJh hρ h2
    simp only [E.ev] at g1 g2
    refine ⟨?_, e2.trans e1, hs2⟩
    simp only [SV.den, Instr.indexAt, asIntOf, Sem.run_bind, Sem.run_pure, Result.andThen_ok, qQx hu, Option.map_some, qQz hz]
    rw [if_pos (show (0 : Int) ≤ i.ev ρ ∧ i.ev ρ < ((n : Nat) : Int) from ⟨g1, g2⟩)]
    simp [qQz hz, qQu]
   ·cases h
 ·exact old h
end
def ckOfV : SV → Option CK
 | .int k _ => some (.int k)
 | .bool _ => some .bool
 | .str _ => some .str
 | .lit (.string _) => some .str
 | _ => none
def rdBase : E → Option E
 | .f 13 q (.c 0) _ => some q
 | .w _ (.f 13 q (.c 0) _) => some q
 | _ => none
def baseOfV : SV → Option E
 | .int _ e => rdBase e
 | .bool e => rdBase e
 | .str e => rdBase e
 | _ => none
def chunkP (cx : Cx) (cks : List CK) (z : Nat) : Nat → List SV → Option (List E)
 | 0, _ => some []
 | n + 1, l => match codeP cx cks (l.take z), chunkP cx cks z n (l.drop z) with
  | some e, some es => some (e :: es)
  | _, _ => none
theorem qYj {cx : Cx} {ρ : Env} (hρ : EnvOk cx ρ) (β : Bt) {cks : List CK} : ∀ (n : Nat) {l : List SV} {es : List E}, chunkP cx cks cks.length n l = some es → l.length = n * cks.length →
  es.length = n ∧ ∀ i0 : Nat, ∀ f : Nat → Int, (∀ i, i < n → f (i0 + i) = ((es[i]?).map (E.ev ρ)).getD 0) → SV.denL ρ β l = tabL (fun i => qQc cks (f i)) i0 n
 | 0, l, es, h, hl => by
  cases h
  have : l = [] := List.length_eq_zero_iff.1 (by simpa using hl)
  subst this
  exact ⟨rfl, fun _ _ _ => rfl⟩
 | n + 1, l, es, h, hl => by
  simp only [chunkP] at h
  split at h
  ·rename_i e es' he hes
   cases h
   have hl' : (l.drop cks.length).length = n * cks.length := by rw [List.length_drop, hl, Nat.succ_mul]; omega
   obtain ⟨g1, g2⟩ := qYj hρ β n hes hl'
   refine ⟨by simp [g1], fun i0 f hf => ?_⟩
   have h0 := hf 0 (by omega)
   simp only [Nat.add_zero, List.getElem?_cons_zero, Option.map_some, Option.getD_some] at h0
   have hr := g2 (i0 + 1) f (fun i hi => by
    have := hf (i + 1) (by omega)
    rw [show i0 + 1 + i = i0 + (i + 1) by omega, this]; simp)
   simp only [tabL]
   rw [h0, ← codeP_den hρ β he, ← hr, ← qQf, List.take_append_drop]
  ·cases h
def cksL : List SV → Option (List CK)
 | [] => some []
 | x :: l => match ckOfV x, cksL l with
  | some k, some m => some (k :: m)
  | _, _ => none
def baseZ (z : Nat) (x : SV) : Option E := match baseOfV x with
 | some q => if Nat.beq z 1 then some q else rdBase q
 | none => none
def isRow (cx : Cx) (cks : List CK) (q : E) : Nat → Nat → List SV → Bool
 | 0, _, l => l.isEmpty
 | n + 1, r, l => SV.beqL (elemS cx cks (E.rdA q (.c r))) (l.take cks.length) && isRow cx cks q n (r + 1) (l.drop cks.length)
def gatherZ (cx : Cx) (cks : List CK) (n : Nat) (l : List SV) : Option E :=
 match l with
 | [] => none
 | x :: _ => match baseZ cks.length x with
  | some q => if isRow cx cks q n 0 l then some q else (chunkP cx cks cks.length n l).map qQr
  | none => (chunkP cx cks cks.length n l).map qQr
theorem isRow_ok {cx : Cx} {ρ : Env} (hρ : EnvOk cx ρ) (β : Bt) {cks : List CK} {q : E} : ∀ {n r : Nat} {l : List SV}, isRow cx cks q n r l = true → SV.denL ρ β l = tabL (fun i => qQc cks (rdZ (q.ev ρ) i)) r n
 | 0, r, l, h => by
  simp only [isRow, List.isEmpty_iff] at h
  subst h; rfl
 | n + 1, r, l, h => by
  simp only [isRow, Bool.and_eq_true] at h
  have h1 := SV.eqL_of_beq _ _ h.1
  have h2 := isRow_ok hρ β h.2
  rw [← List.take_append_drop cks.length l, qQf, ← h1, h2, elemS_den hρ, E.rdA_ev hρ]
  rfl
theorem gatherZ_ok {cx : Cx} {ρ : Env} (hρ : EnvOk cx ρ) (β : Bt) {l : List SV} {cks : List CK} {n : Nat} {q : E} (h : gatherZ cx cks n l = some q) (hl : l.length = n * cks.length) : SV.denL ρ β l = rowV cks (q.ev ρ) n := by
 have list : (chunkP cx cks cks.length n l).map qQr = some q → SV.denL ρ β l = rowV cks (q.ev ρ) n := by
  intro h
  obtain ⟨es, hes, rfl⟩ := Option.map_eq_some_iff.1 h
  obtain ⟨g1, g2⟩ := qYj hρ β n hes hl
  exact g2 0 _ fun i hi => by rw [Nat.zero_add]; exact qJo hρ es i
 unfold gatherZ at h
 split at h
 ·cases h
 ·split at h
  ·split at h
   ·rename_i hr
    cases h
    exact isRow_ok hρ β hr
   ·exact list h
  ·exact list h
def gather (cx : Cx) (l : List SV) : Option (CK × E) :=
 match l with
 | [] => none
 | x :: _ => match ckOfV x with
  | none => none
  | some k => (gatherZ cx [k] l.length l).map fun q => (k, q)
theorem gather_ok {cx : Cx} {ρ : Env} (hρ : EnvOk cx ρ) (β : Bt) {l : List SV} {k : CK} {q : E} (h : gather cx l = some (k, q)) : ∀ i, i < l.length → (SV.denL ρ β l)[i]? = some (ckV k (rdZ (q.ev ρ) i)) := by
 unfold gather at h
 split at h
 ·cases h
 ·split at h
  ·cases h
  ·obtain ⟨q', hq, he⟩ := Option.map_eq_some_iff.1 h
   cases he
   intro i hi
   rw [gatherZ_ok hρ β hq (by simp)]
   have := qKw [k] (q.ev ρ) hi (r := 0) (by simp)
   simpa [qQc] using this
def loadT0 (cx : Cx) (t : TypeId) (x : SV) (s : St) : R :=
 match x with
 | .ep b z i f =>
  (match qKv cx s b with
  | some (cks, q, n) =>
   if cks.length == z then
    obl s (leE cx (.c 0) i) fun s => obl s (ltE cx i n) fun s =>
    (match isAggT cx t, szT cx t with
    | some true, some m => if f + m ≤ z then ret s (.agg (((elemS cx cks (E.rdA q i)).drop f).take m)) else .bad 210
    | some false, _ => (match (elemS cx cks (E.rdA q i))[f]? with
     | some v => ret s v
     | none => .bad 211)
    | _, _ => .bad 212)
   else .bad 213
  | none => .bad 214)
 | .cp j base z len i f =>
  (match s.cellN j base (len * z) with
  | some l => (match cksL (l.take z) with
   | some cks => if cks.length == z then (match gatherZ cx cks len l with
    | some q => obl s (leE cx (.c 0) i) fun s => obl s (ltE cx i (.c len)) fun s =>
     (match isAggT cx t, szT cx t with
     | some true, some m => if f + m ≤ z then ret s (.agg (((elemS cx cks (E.rdA q i)).drop f).take m)) else .bad 210
     | some false, _ => (match (elemS cx cks (E.rdA q i))[f]? with
      | some v => ret s v
      | none => .bad 211)
     | _, _ => .bad 212)
    | none => .bad 215) else .bad 218
   | none => .bad 216)
  | none => .bad 219)
 | x => (match loadS cx t x s with
  | some v => ret s v
  | none => .bad 217)
section
variable {cx : Cx} {ρ : Env} (hρ : EnvOk cx ρ) {β : Bt} {s s' : St} {w : World}
include hρ
theorem loadT0_ok (hs : Sat ρ β s w) {t : TypeId} {X v : SV} (h : (loadT0 cx t X s).sel ρ = some (v, s')) : LookOk cx ρ β s s' w (Instr.loadAt t (X.den ρ β)) v := by
 unfold loadT0 at h
 split at h
 ·rename_i b z i f
  split at h
  ·rename_i cks q n hrow
   split at h
   ·rename_i hz
    have hz : cks.length = z := by simpa using hz
    obtain ⟨s1, e1, hs1, h1, h⟩ := qQk hs h
    obtain ⟨s2, e2, hs2, h2, h⟩ := qQk hs1 h
    have g1 := qQw hρ h1
    have g2 := qJh hρ h2
    simp only [E.ev] at g1
    obtain ⟨a, ha, hcell⟩ := qJr hρ hs hrow (i := (i.ev ρ).toNat) (by omega)
    have hel : SV.denL ρ β (elemS cx cks (E.rdA q i)) = qQc cks (rdZ (q.ev ρ) (i.ev ρ).toNat) := by
     rw [elemS_den hρ, E.rdA_ev hρ, qKp]
    split at h
    ·rename_i m ha' hm
     split at h
     ·rename_i hf
      cases h
      refine ⟨?_, e2.trans e1, hs2⟩
      rw [qKc ρ β b z i f ha]
      have hden : SV.denL ρ β (((elemS cx cks (E.rdA q i)).drop f).take m) = ((qQc cks (rdZ (q.ev ρ) (i.ev ρ).toNat)).drop f).take m := by
       rw [← hel]; simp only [qQa, List.map_take, List.map_drop]
      have hlen : (((qQc cks (rdZ (q.ev ρ) (i.ev ρ).toNat)).drop f).take m).length = m := by
       simp only [List.length_take, List.length_drop, qQd, hz]; omega
      have hld := run_loadCells_list (P := cx.P) w (a.add ((i.ev ρ).toNat * z + f)) (((qQc cks (rdZ (q.ev ρ) (i.ev ρ).toNat)).drop f).take m) (by
       intro r x hx
       rw [List.getElem?_take] at hx
       split at hx
       ·rw [List.getElem?_drop] at hx
        rw [qJj, Nat.add_assoc, ← hz]
        exact hcell _ x hx
       ·cases hx)
      rw [hlen] at hld
      simp only [Instr.loadAt, Instr.sureAddr, loadVar, Sem.run_bind, Sem.run_pure, Result.andThen_ok, qZy ha', if_true, qQz hm, hld, SV.den, hden]
     ·cases h
    ·rename_i ha'
     split at h
     ·rename_i v' hv'
      cases h
      refine ⟨?_, e2.trans e1, hs2⟩
      rw [qKc ρ β b z i f ha]
      have hx : (qQc cks (rdZ (q.ev ρ) (i.ev ρ).toNat))[f]? = some (v.den ρ β) := by
       rw [← hel, qJa, hv']; rfl
      have hc := hcell f _ hx
      rw [hz] at hc
      simp [Instr.loadAt, Instr.sureAddr, loadVar, qZy ha', hc]
     ·cases h
    ·cases h
   ·cases h
  ·cases h
 ·rename_i j base z len i f
  split at h
  ·rename_i l hl
   split at h
   ·rename_i cks hcks
    split at h
    ·rename_i hz
     have hz : cks.length = z := by simpa using hz
     split at h
     ·rename_i q hg
      obtain ⟨s1, e1, hs1, h1, h⟩ := qQk hs h
      obtain ⟨s2, e2, hs2, h2, h⟩ := qQk hs1 h
      have g1 := qQw hρ h1
      have g2 := qJh hρ h2
      simp only [E.ev] at g1 g2
      obtain ⟨hln, hcells⟩ := hs.cellN _ base hl
      have hi : (i.ev ρ).toNat < len := by omega
      have hgv := gatherZ_ok hρ β hg (by rw [hz]; exact hln)
      have hcell : ∀ (r : Nat) (x : Value), (qQc cks (rdZ (q.ev ρ) (i.ev ρ).toNat))[r]? = some x → w.cell? ⟨(β j).1, base + (i.ev ρ).toNat * z + r, none⟩ = some x := by
       intro r x hx
       have hr : r < cks.length := by
        have := (List.getElem?_eq_some_iff.1 hx).1
        rwa [qQd] at this
       have hget := qKw cks (q.ev ρ) hi hr
       rw [← hgv, qJa, hx] at hget
       obtain ⟨y, hy, hyx⟩ := Option.map_eq_some_iff.1 hget
       have hc := hcells _ _ hy
       rw [hyx, hz, ← Nat.add_assoc] at hc
       exact hc
      have hel : SV.denL ρ β (elemS cx cks (E.rdA q i)) = qQc cks (rdZ (q.ev ρ) (i.ev ρ).toNat) := by
       rw [elemS_den hρ, E.rdA_ev hρ, qKp]
      split at h
      ·rename_i m ha' hm
       split at h
       ·rename_i hf
        cases h
        refine ⟨?_, e2.trans e1, hs2⟩
        have hden : SV.denL ρ β (((elemS cx cks (E.rdA q i)).drop f).take m) = ((qQc cks (rdZ (q.ev ρ) (i.ev ρ).toNat)).drop f).take m := by
         rw [← hel]; simp only [qQa, List.map_take, List.map_drop]
        have hlen : (((qQc cks (rdZ (q.ev ρ) (i.ev ρ).toNat)).drop f).take m).length = m := by
         simp only [List.length_take, List.length_drop, qQd, hz]; omega
        have hld := run_loadCells_list (P := cx.P) w ⟨(β j).1, base + (i.ev ρ).toNat * z + f, none⟩ (((qQc cks (rdZ (q.ev ρ) (i.ev ρ).toNat)).drop f).take m) (by
         intro r x hx
         rw [List.getElem?_take] at hx
         split at hx
         ·rw [List.getElem?_drop] at hx
          rw [qQu, Nat.add_assoc]
          exact hcell _ x hx
         ·cases hx)
        rw [hlen] at hld
        simp only [Instr.loadAt, Instr.sureAddr, loadVar, Sem.run_bind, Sem.run_pure, Result.andThen_ok, qZy ha', if_true, qQz hm, hld, SV.den, hden]
       ·cases h
      ·rename_i ha'
       split at h
       ·rename_i v' hv'
        cases h
        refine ⟨?_, e2.trans e1, hs2⟩
        have hx : (qQc cks (rdZ (q.ev ρ) (i.ev ρ).toNat))[f]? = some (v.den ρ β) := by
         rw [← hel, qJa, hv']; rfl
        have hc := hcell f _ hx
        simp only [SV.den]
        simp [Instr.loadAt, Instr.sureAddr, loadVar, qZy ha', hc]
       ·cases h
      ·cases h
     ·cases h
    ·cases h
   ·cases h
  ·cases h
 ·rename_i h1 h2
  split at h
  ·rename_i r hr
   cases h
   exact ⟨loadS_ok hs hr, rfl, hs⟩
  ·cases h
end
def loadT (cx : Cx) (t : TypeId) (x : SV) (s : St) : R :=
 match unflX x with
 | some (b, z, i, j) => (match qKv cx s b, isAggT cx t with
  | some (k :: k2 :: cks, q, n), some false =>
   if cks.length + 2 == z && (k2 :: cks).all (fun c => decide (c = k)) then
    obl s (leE cx (.c 0) i) fun s => obl s (ltE cx i n) fun s => obl s (leE cx (.c 0) j) fun s => obl s (ltE cx j (.c z)) fun s => ret s (ckS cx k (.f 13 (E.rdA q i) j (.c 0)))
   else loadT0 cx t x s
  | _, _ => loadT0 cx t x s)
 | none => loadT0 cx t x s
theorem same_get {k : CK} : ∀ {l : List CK}, l.all (fun c => decide (c = k)) = true → ∀ (r : Nat), r < l.length → l[r]? = some k
 | [], _, r, hr => absurd hr (Nat.not_lt_zero _)
 | c :: l, h, 0, _ => by simp at h; simp [h.1]
 | c :: l, h, r + 1, hr => by
  simp only [List.all_cons, Bool.and_eq_true] at h
  simpa using same_get h.2 r (by simpa using hr)
theorem flat_toNat {ρ : Env} {i j : E} {z : Int} (z0 : 0 ≤ z) (i0 : 0 ≤ i.ev ρ) (j0 : 0 ≤ j.ev ρ) : ((E.b .padd .i64 (.b .pmul .i64 i (.c z)) j).ev ρ).toNat = (i.ev ρ).toNat * z.toNat + (j.ev ρ).toNat := by
 obtain ⟨I', hI⟩ : ∃ E' : Nat, i.ev ρ = E' := ⟨(i.ev ρ).toNat, by omega⟩
 obtain ⟨J', hJ⟩ : ∃ I' : Nat, j.ev ρ = I' := ⟨(j.ev ρ).toNat, by omega⟩
 obtain ⟨Z', rfl⟩ : ∃ I' : Nat, z = I' := ⟨z.toNat, by omega⟩
 simp only [E.ev, BO.ev, hI, hJ, Int.toNat_natCast]
 omega
section
variable {cx : Cx} {ρ : Env} (hρ : EnvOk cx ρ) {β : Bt} {s s' : St} {w : World}
include hρ
theorem loadT_ok (hs : Sat ρ β s w) {t : TypeId} {X v : SV} (h : (loadT cx t X s).sel ρ = some (v, s')) : LookOk cx ρ β s s' w (Instr.loadAt t (X.den ρ β)) v := by
 unfold loadT at h
 split at h
 ·rename_i b z i j hx
  split at h
  ·rename_i k k2 cks q n hrow hag
   split at h
   ·rename_i hc
    simp only [Bool.and_eq_true, beq_iff_eq] at hc
    obtain ⟨hz, hk⟩ := hc
    obtain ⟨s1, e1, hs1, h1, h⟩ := qQk hs h
    obtain ⟨s2, e2, hs2, h2, h⟩ := qQk hs1 h
    obtain ⟨s3, e3, hs3, h3, h⟩ := qQk hs2 h
    obtain ⟨s4, e4, hs4, h4, h⟩ := qQk hs3 h
    cases h
    have g1 := qQw hρ h1
    have g2 := qJh hρ h2
    have g3 := qQw hρ h3
    have g4 := qJh hρ h4
    simp only [E.ev] at g1 g3 g4
    obtain ⟨a, ha, hcell⟩ := qJr hρ hs hrow (i := (i.ev ρ).toNat) (by omega)
    refine ⟨?_, e4.trans (e3.trans (e2.trans e1)), hs4⟩
    obtain ⟨z', hzz, rfl⟩ := unflX_ok hx
    rw [qKc ρ β b 1 _ 0 ha, flat_toNat (by omega) g1 g3, ckS_den hρ]
    have hget : (qQc (k :: k2 :: cks) (rdZ (q.ev ρ) (i.ev ρ).toNat))[(j.ev ρ).toNat]? = some (ckV k ((E.f 13 (E.rdA q i) j (.c 0)).ev ρ)) := by
     show (qXn _ 0 (k :: k2 :: cks))[(j.ev ρ).toNat]? = _
     rw [qJi]
     have hkk : (k :: k2 :: cks)[(j.ev ρ).toNat]? = some k := by
      have : (k :: k2 :: cks).all (fun c => decide (c = k)) = true := by rw [List.all_cons, hk]; simp
      exact same_get this _ (by simp only [List.length_cons]; omega)
     rw [hkk]
     simp only [Option.map_some, E.ev, qZu hρ (n := 13) (by omega) (by omega), E.rdA_ev hρ, Nat.zero_add]
     rw [qKp, show (((i.ev ρ).toNat : Nat) : Int) = i.ev ρ by omega]; rfl
    have hcc := hcell _ _ hget
    simp only [List.length_cons] at hcc
    rw [show cks.length + 1 + 1 = z'.toNat by omega] at hcc
    simp [Instr.loadAt, Instr.sureAddr, loadVar, qZy hag, hcc]
   ·exact loadT0_ok hρ hs h
  ·exact loadT0_ok hρ hs h
 ·exact loadT0_ok hρ hs h
end
end Go.Eng
end

/-!  -/
noncomputable section
namespace Go.Eng
theorem mk_of {L : List Value} {n : Nat} {mk : Nat × Nat} (hl : L.length = n) (h : mkFree n mk) : mkFree L.toArray.size mk := by rw [List.size_toArray, hl]; exact h
theorem qZf (P : Program) (g o : Nat) (t : TypeId) {mk : Nat × Nat} : ∀ (vs : List Value) (i : Nat) (cur : Array Value) (w : World), w.heap[g]? = some (.cells cur t mk) → mkFree cur.size mk → o + i + vs.length ≤ cur.size → (∀ v ∈ vs, v.oneCell' = true) →
  (storeCells ⟨g, o, none⟩ vs i).run P w = .ok () (w.setRow g (cur.toList.take (o + i) ++ vs ++ cur.toList.drop (o + i + vs.length)).toArray)
 | [], i, cur, w, hg, _, _, _ => by
  simp only [storeCells, List.append_nil, List.length_nil, Nat.add_zero, List.take_append_drop, Array.toArray_toList]
  rw [setRow_self w g cur t mk hg]
  rfl
 | v :: rest, i, cur, w, hg, hm, hl, h1 => by
  have hi : o + i < cur.size := by simp at hl; omega
  have hadd : (⟨g, o, none⟩ : Addr).add i = ⟨g, o + i, none⟩ := by unfold Addr.add; split <;> simp_all
  have hcell : w.cell? ⟨g, o + i, none⟩ = some cur[o + i] := by simp [World.cell?, hg, hi]
  have hfro : w.frozen? ⟨g, o + i, none⟩ = false := by
   rcases hm with hm | hm
   ·subst hm; simp [World.frozen?, hg]
   ·simp only [World.frozen?, hg]
    have : ¬ mk.1 ≤ o + i := by omega
    simp [this]
  have hst : (store ((⟨g, o, none⟩ : Addr).add i) v).run P w = .ok () (w.setRow g (cur.setIfInBounds (o + i) v)) := by
   rw [hadd, run_store P w _ v _ (h1 v (by simp)), hcell]
   simp [hfro, setCell_eq_setRow w g (o + i) cur t mk v hg]
  have ih := qZf P g o t rest (i + 1) (cur.setIfInBounds (o + i) v) (w.setRow g (cur.setIfInBounds (o + i) v)) (setRow_heap w g cur _ t _ hg) (by simpa using hm) (by simp at hl ⊢; omega) (fun x hx => h1 x (by simp [hx]))
  simp only [storeCells, Sem.run_bind, hst, Result.andThen_ok, ih, setRow_setRow]
  congr 3
  have e := list_seg_step cur.toList (o + i) v rest (by simp at hl ⊢; omega)
  simpa [Array.toList_setIfInBounds, Nat.add_assoc] using e
theorem run_append_roomM {P : Program} (w : World) (t ty e : TypeId) (i : TypeInfo) (ht : P.underlying t = some (.slice e)) (hi : P.info? e = some i)
  (g sLen sCap : Nat) (cur : Array Value) {mk : Nat × Nat} (hg : w.heap[g]? = some (.cells cur e mk)) (hm : mkFree cur.size mk)
  (a : Addr) (m c : Nat) (news : List Value) (hl : news.length = m * i.size) (hnews : ∀ j u, news[j]? = some u → w.cell? (a.add j) = some u) (h1 : ∀ u ∈ news, u.oneCell' = true)
  (hroom : sLen + m ≤ sCap) (hfit : sLen * i.size + news.length ≤ cur.size) :
  (Builtin.append_ #[t, t] ty #[.slice (some ⟨g, 0, none⟩) sLen sCap, .slice (some a) m c]).run P w =
   .ok (.slice (some ⟨g, 0, none⟩) (sLen + m) sCap) (w.setRow g (cur.toList.take (sLen * i.size) ++ news ++ cur.toList.drop (sLen * i.size + news.length)).toArray) := by
 have hf := run_firstCells_some (P := P) w i.size m a m c news hl hnews
 have hst := qZf P g (sLen * i.size) e news 0 cur w hg hm (by simpa using hfit) h1
 simp only [Nat.add_zero] at hst
 simp [Builtin.append_, run_underlying ht, sizeOf, typeInfo, hi, Builtin.lenOf, hroom, hf, Addr.add_lit, hst]
theorem run_copy_rowM {P : Program} (w : World) (dT sT ty elem : TypeId) (g o dLen dCap : Nat) (a : Addr) (sLen sCap : Nat) (cur : Array Value) (t : TypeId) (cs : List Value)
  (hu : P.underlying dT = some (.slice elem)) (hs : (P.info? elem).map (·.size) = some 1) {mk : Nat × Nat}
  (hg : w.heap[g]? = some (.cells cur t mk)) (hm : mkFree cur.size mk) (hn : cs.length = Nat.min sLen dLen)
  (hsrc : ∀ j v, cs[j]? = some v → w.cell? (a.add j) = some v) (hfit : o + cs.length ≤ cur.size) (h1 : ∀ v ∈ cs, v.oneCell' = true) :
  (Builtin.copy_ #[dT, sT] ty #[.slice (some ⟨g, o, none⟩) dLen dCap, .slice (some a) sLen sCap]).run P w =
   .ok (goInt cs.length) (w.setRow g (cur.toList.take o ++ cs ++ cur.toList.drop (o + cs.length)).toArray) := by
 have hl := run_loadCells_list (P := P) w a cs hsrc
 have hst := qZf P g o t cs 0 cur w hg hm (by simpa using hfit) h1
 cases hq : P.info? elem with
 | none => simp [hq] at hs
 | some i =>
  have hi : i.size = 1 := by simpa [hq] using hs
  simp [Builtin.copy_, run_underlying hu, Builtin.lenOf, Builtin.firstCells, sizeOf, typeInfo, hq, hi, ← hn, hl, hst]
theorem Sat.reset {ρ : Env} {β : Bt} {s : St} {w : World} (hs : Sat ρ β s w) {j : Nat} {b b' : SBlk} {old cur : Array Value} {e : TypeId} (hj : s.bl[j]? = some b) (ho : b.occ (β j).2.1 = true) (ho' : b'.occ (β j).2.1 = true)
  {mk : Nat × Nat} (hheap : w.heap[(β j).1]? = some (.cells old e mk)) (hg : qZw ρ β (β j).2.1 b' (some (.cells cur e mk))) :
  Sat ρ β { s with bl := s.bl.set j b' } (w.setRow (β j).1 cur) ∧ Ext s { s with bl := s.bl.set j b' } β β w (w.setRow (β j).1 cur) := by
 have hlive : live β s j := ⟨b, hj, ho⟩
 have hls : ∀ i, live β { s with bl := s.bl.set j b' } i ↔ live β s i := live_set hj (ho'.trans ho.symm)
 have hw : ∀ b, b ≠ (β j).1 → (w.setRow (β j).1 cur).heap[b]? = w.heap[b]? := fun b hb => setRow_other w _ b _ hb
 have hx : Ext s { s with bl := s.bl.set j b' } β β w (w.setRow (β j).1 cur) := by
  refine ⟨fun _ _ => rfl, fun i _ hl => (hls i).1 hl, ?_, by simp [World.setRow], ?_, by simp, rfl, rfl, rfl⟩
  ·intro i hi hl
   have := qQt ((hls i).1 hl)
   omega
  ·intro b hb hn
   exact hw b (fun e => hn j hlive e.symm)
 refine hs.mk' hx ?_ ?_ hs.kn
 ·intro i b2 hi
  by_cases hij : j = i
  ·subst hij
   have hlt := (List.getElem?_eq_some_iff.1 hj).1
   simp [hlt] at hi
   subst hi
   rw [setRow_heap w (β j).1 old cur e mk hheap]
   exact hg
  ·rw [List.getElem?_set_ne hij] at hi
   refine qZd (fun hocc => ?_) (hs.blk i b2 hi)
   exact hw _ (fun e => hij (hs.inj _ _ hlive ⟨_, hi, hocc⟩ e.symm))
 ·intro a b ha hb
  exact hs.inj a b ((hls a).1 ha) ((hls b).1 hb)
theorem rowV_split (cks : List CK) (c : Int) {n i : Nat} (h : i < n) :
  rowV cks c n = tabL (fun i => qQc cks (rdZ c i)) 0 i ++ qQc cks (rdZ c i) ++ tabL (fun i => qQc cks (rdZ c i)) (i + 1) (n - i - 1) := by
 unfold rowV
 obtain ⟨d, rfl⟩ : ∃ d, n = i + (1 + d) := ⟨n - i - 1, by omega⟩
 rw [qZk, qZk]
 simp only [tabL, List.append_nil, Nat.zero_add, List.append_assoc]
 rw [show i + (1 + d) - i - 1 = d by omega]
theorem list_mid {α : Type} (A B C v : List α) (f m : Nat) (hv : v.length = m) (hf : f + m ≤ B.length) :
  (A ++ B ++ C).take (A.length + f) ++ v ++ (A ++ B ++ C).drop (A.length + f + m) = A ++ (B.take f ++ v ++ B.drop (f + m)) ++ C := by
 have h1 : (A ++ B ++ C).take (A.length + f) = A ++ B.take f := by
  rw [List.append_assoc, List.take_append, List.take_of_length_le (by omega), Nat.add_sub_cancel_left, List.take_append_of_le_length (by omega)]
 have h2 : (A ++ B ++ C).drop (A.length + f + m) = B.drop (f + m) ++ C := by
  rw [List.append_assoc, List.drop_append, List.drop_of_length_le (by omega), List.nil_append, show A.length + f + m - A.length = f + m by omega, List.drop_append_of_le_length hf]
 rw [h1, h2]
 simp
theorem rowV_upd (cks : List CK) (c : Int) {n : Nat} {ix x' : Int} (h : ix.toNat < n) (v : List Value) (f : Nat) (hf : f + v.length ≤ cks.length) (tl : List Value)
  (hx : qQc cks x' = (qQc cks (rdZ c ix)).take f ++ v ++ (qQc cks (rdZ c ix)).drop (f + v.length)) :
  (rowV cks c n ++ tl).take (ix.toNat * cks.length + f) ++ v ++ (rowV cks c n ++ tl).drop (ix.toNat * cks.length + f + v.length) = rowV cks (updZ c ix x') n ++ tl := by
 rw [rowV_split cks c h, rowV_split cks (updZ c ix x') h]
 have e1 : tabL (fun i => qQc cks (rdZ (updZ c ix x') i)) 0 ix.toNat = tabL (fun i => qQc cks (rdZ c i)) 0 ix.toNat :=
  qZv _ _ _ fun k hk => by
   simp only [Nat.zero_add]
   rw [qZr, if_neg (by rw [Int.toNat_natCast]; omega)]
 have e2 : tabL (fun i => qQc cks (rdZ (updZ c ix x') i)) (ix.toNat + 1) (n - ix.toNat - 1) = tabL (fun i => qQc cks (rdZ c i)) (ix.toNat + 1) (n - ix.toNat - 1) :=
  qZv _ _ _ fun k hk => by
   show qQc cks (rdZ (updZ c ix x') _) = _
   rw [qZr, if_neg (by rw [Int.toNat_natCast]; omega)]
 have e3 : rdZ (updZ c ix x') (ix.toNat : Nat) = x' := by rw [qZr, if_pos (by rw [Int.toNat_natCast])]
 have hA : (tabL (fun i => qQc cks (rdZ c i)) 0 ix.toNat).length = ix.toNat * cks.length := qZe (fun _ => qQd _ _) _ _
 rw [e1, e2, e3, hx]
 have := list_mid (tabL (fun i => qQc cks (rdZ c i)) 0 ix.toNat) (qQc cks (rdZ c ix)) (tabL (fun i => qQc cks (rdZ c i)) (ix.toNat + 1) (n - ix.toNat - 1) ++ tl) v f v.length rfl (by rw [qQd]; exact hf)
 rw [hA] at this
 rw [qKp]
 simp only [List.append_assoc] at this ⊢
 exact this
theorem oneV_ckV (k : CK) (x : Int) : oneV (ckV k x) = true := by cases k <;> rfl
theorem oneV_elemV (cks : List CK) (x : Int) : ∀ v ∈ qQc cks x, v.oneCell' = true := by
 have hF : ∀ (l : List CK) (f : Nat), ∀ v ∈ qXn x f l, v.oneCell' = true := by
  intro l
  induction l with
  | nil => intro f v hv; cases hv
  | cons k l ih =>
   intro f v hv
   rcases List.mem_cons.1 hv with rfl | hv
   ·exact qJz (oneV_ckV _ _)
   ·exact ih _ v hv
 intro v hv
 unfold qQc at hv
 split at hv
 ·rw [List.mem_singleton.1 hv]; exact qJz (oneV_ckV _ _)
 ·exact hF _ _ v hv
def updsE (q : E) : Nat → List E → E
 | _, [] => q
 | f, x :: l => updsE (.f 14 q (.c f) x) (f + 1) l
theorem updsE_ev {cx : Cx} {ρ : Env} (hρ : EnvOk cx ρ) : ∀ (l : List E) (q : E) (f : Nat) (r : Nat), rdZ ((updsE q f l).ev ρ) r = if f ≤ r then (match l[r - f]? with | some e => e.ev ρ | none => rdZ (q.ev ρ) r) else rdZ (q.ev ρ) r
 | [], q, f, r => by simp [updsE]
 | x :: l, q, f, r => by
  simp only [updsE]
  rw [updsE_ev hρ l _ (f + 1) r]
  have hq : ((E.f 14 q (.c f) x).ev ρ) = updZ (q.ev ρ) f (x.ev ρ) := by
   simp only [E.ev, qZu hρ (n := 14) (by omega) (by omega)]; rfl
  rw [hq, qZr, Int.toNat_natCast, Int.toNat_natCast]
  by_cases h1 : f + 1 ≤ r
  ·rw [if_pos h1, if_neg (show ¬ r = f by omega), if_pos (show f ≤ r by omega)]
   rw [show r - f = (r - (f + 1)) + 1 by omega, List.getElem?_cons_succ]
  ·rw [if_neg h1]
   by_cases h2 : f = r
   ·subst h2; simp
   ·rw [if_neg (by omega), if_neg (by omega)]
def newP (cx : Cx) (cks : List CK) (q0 : E) (f : Nat) (l : List SV) : Option E :=
 if f == 0 && l.length == cks.length then codeP cx cks l
 else match cks with
  | [_] => none
  | _ => if f + l.length ≤ cks.length then (codeL cx ((cks.drop f).take l.length) l).map (updsE q0 f) else none
theorem newP_ok {cx : Cx} {ρ : Env} (hρ : EnvOk cx ρ) (β : Bt) {cks : List CK} {q0 x : E} {f : Nat} {l : List SV} (h : newP cx cks q0 f l = some x) :
  f + l.length ≤ cks.length ∧ qQc cks (x.ev ρ) = (qQc cks (q0.ev ρ)).take f ++ SV.denL ρ β l ++ (qQc cks (q0.ev ρ)).drop (f + l.length) := by
 unfold newP at h
 split at h
 ·rename_i hc
  simp only [Bool.and_eq_true, beq_iff_eq] at hc
  obtain ⟨rfl, hl⟩ := hc
  refine ⟨by omega, ?_⟩
  rw [← codeP_den hρ β h, List.take_zero, List.nil_append, List.drop_of_length_le (by rw [qQd]; omega), List.append_nil]
 ·split at h
  ·cases h
  ·rename_i hn
   split at h
   ·rename_i hfl
    obtain ⟨es, hes, rfl⟩ := Option.map_eq_some_iff.1 h
    obtain ⟨g1, g2, g3⟩ := codeL_den hρ β hes
    have gl : ((cks.drop f).take l.length).length = l.length := by simp; omega
    rw [gl] at g2
    refine ⟨hfl, ?_⟩
    have hE : ∀ y : Int, qQc cks y = qXn y 0 cks := by
     intro y
     unfold qQc
     split
     ·exact absurd rfl (hn _)
     ·rfl
    rw [hE, hE]
    apply List.ext_getElem?
    intro r
    rw [qJi, Nat.zero_add]
    have hlen : (qXn (q0.ev ρ) 0 cks).length = cks.length := elemF_len _ _ _
    have h3 : (List.take f (qXn (q0.ev ρ) 0 cks)).length = f := by simp [hlen]; omega
    rw [List.append_assoc, List.getElem?_append]
    rw [h3]
    by_cases h1 : r < f
    ·rw [if_pos h1, List.getElem?_take, if_pos h1, qJi, Nat.zero_add]
     rw [updsE_ev hρ, if_neg (by omega)]
    ·rw [if_neg h1, List.getElem?_append, qQe]
     by_cases h2 : r - f < l.length
     ·rw [if_pos h2]
      have hk : cks[r]? = some cks[r] := List.getElem?_eq_getElem (by omega)
      have hk' : ((cks.drop f).take l.length)[r - f]? = some cks[r] := by
       rw [List.getElem?_take, if_pos h2, List.getElem?_drop, show f + (r - f) = r by omega]; exact hk
      rw [g3 _ _ hk', hk, updsE_ev hρ, if_pos (by omega), List.getElem?_eq_getElem (by omega : r - f < es.length)]
      rfl
     ·rw [if_neg h2, List.getElem?_drop, qJi, Nat.zero_add, show f + l.length + (r - f - l.length) = r by omega]
      rw [updsE_ev hρ, if_pos (by omega), List.getElem?_eq_none (by omega : es.length ≤ r - f)]
   ·cases h
def setLL (l : List SV) (base : Nat) (m : List SV) : List SV := l.take base ++ m ++ l.drop (base + m.length)
def qJs (cx : Cx) (cks : List CK) (q : E) : Nat → Nat → List SV
 | 0, _ => []
 | n + 1, r => elemS cx cks (E.rdA q (.c r)) ++ qJs cx cks q n (r + 1)
theorem rowCells_den {cx : Cx} {ρ : Env} (hρ : EnvOk cx ρ) (β : Bt) (cks : List CK) (q : E) : ∀ (n r : Nat), SV.denL ρ β (qJs cx cks q n r) = tabL (fun i => qQc cks (rdZ (q.ev ρ) i)) r n
 | 0, _ => rfl
 | n + 1, r => by rw [qJs, qQf, rowCells_den hρ β cks q n (r + 1), elemS_den hρ, E.rdA_ev hρ]; rfl
def storeT0 (cx : Cx) (t : TypeId) (x v : SV) (s : St) : T St :=
 match x with
 | .ep (.own j) z i f =>
  (match s.bl[j]?, v.cells, szT cx t with
  | some (.arr cks e q n), some l, some m =>
   if cks.length == z && l.length == m && decide (0 < z) then
    (match newP cx cks (E.rdA q i) f l with
    | some x' => obl s (leE cx (.c 0) i) fun s => obl s (ltE cx i n) fun s => .leaf { s with bl := s.bl.set j (.arr cks e (.f 14 q i x') n) }
    | none => .bad 220)
   else .bad 221
  | _, _, _ => .bad 222)
 | .cp j base z len i f =>
  (match s.bl[j]?, s.cellN j base (len * z), v.cells, szT cx t with
  | some (.cells L e o), some l, some vl, some m => (match cksL (l.take z) with
   | some cks => if cks.length == z && vl.length == m && decide (0 < m) then (match gatherZ cx cks len l with
    | some q => (match newP cx cks (E.rdA q i) f vl with
     | some x' => obl s (leE cx (.c 0) i) fun s => obl s (ltE cx i (.c len)) fun s => .leaf { s with bl := s.bl.set j (.cells (setLL L base (qJs cx cks (.f 14 q i x') len 0)) e o) }
     | none => .bad 223)
    | none => .bad 224) else .bad 227
   | none => .bad 228)
  | _, _, _, _ => .bad 225)
 | x => (match storeS cx t x v s with
  | some s' => .leaf s'
  | none => .bad 226)
theorem cellN_drop {s : St} {j : Nat} {L : List SV} {e : TypeId} {o : Option Nat} (hj : s.bl[j]? = some (.cells L e o)) : ∀ (n off : Nat) {l : List SV}, s.cellN j off n = some l → l = (L.drop off).take n ∧ off + n ≤ max off L.length
 | 0, off, l, h => by simp [St.cellN] at h; subst h; simp; omega
 | n + 1, off, l, h => by
  simp only [St.cellN] at h
  split at h
  ·rename_i x m hx hm
   cases h
   obtain ⟨ih1, ih2⟩ := cellN_drop hj n (off + 1) hm
   simp only [St.cell, hj] at hx
   have hlt := (List.getElem?_eq_some_iff.1 hx).1
   refine ⟨?_, by omega⟩
   rw [List.drop_eq_getElem_cons hlt, List.take_succ_cons, ← ih1]
   rw [List.getElem?_eq_getElem hlt] at hx
   cases hx; rfl
  ·cases h
section
variable {cx : Cx} {ρ : Env} (hρ : EnvOk cx ρ) {β : Bt} {s s' : St} {w : World}
include hρ
theorem storeT0_ok (hs : Sat ρ β s w) {t : TypeId} {X v : SV} (h : (storeT0 cx t X v s).sel ρ = some s') :
  ∃ w', (Instr.storeAt t (X.den ρ β) (v.den ρ β)).run cx.P w = .ok () w' ∧ Sat ρ β s' w' ∧ Ext s s' β β w w' := by
 unfold storeT0 at h
 split at h
 ·rename_i j z i f
  split at h
  ·rename_i cks e q n l m hj hl hm
   split at h
   ·rename_i hc
    simp only [Bool.and_eq_true, beq_iff_eq, decide_eq_true_eq] at hc
    obtain ⟨⟨hz, hlm⟩, hz0⟩ := hc
    split at h
    ·rename_i x' hx'
     obtain ⟨s1, e1, hs1, h1, h⟩ := qQk hs h
     obtain ⟨s2, e2, hs2, h2, h⟩ := qQk hs1 h
     cases h
     have g1 := qQw hρ h1
     have g2 := qJh hρ h2
     simp only [E.ev] at g1
     obtain ⟨hfl, hel⟩ := newP_ok hρ β hx'
     have e12 : s2.bl = s.bl := e2.trans e1
     have hj2 : s2.bl[j]? = some (.arr cks e q n) := by rw [e12]; exact hj
     rcases hs2.blk j _ hj2 with ⟨_, h0⟩ | ⟨tl, hq, ⟨mk, hmk, hheap⟩, hlen, hmax⟩
     ·omega
     ·have hin : (i.ev ρ).toNat < (n.ev ρ).toNat := by omega
      have hup := rowV_upd cks (q.ev ρ) hin (SV.denL ρ β l) f (by simpa using hfl) tl (by rw [qQe, hel, E.rdA_ev hρ])
      rw [qQe, hlm] at hup
      have hfit : (i.ev ρ).toNat * z + f + l.length ≤ (rowV cks (q.ev ρ) (n.ev ρ).toNat ++ tl).toArray.size := by
       simp only [List.size_toArray, List.length_append, qQi, hz]
       have : (i.ev ρ).toNat * z + z ≤ (n.ev ρ).toNat * z := by
        rw [← Nat.succ_mul]; exact Nat.mul_le_mul_right _ hin
       omega
      obtain ⟨hcl, hone⟩ := SV.cells_den hρ β hl
      have hst := qZf cx.P (β j).1 ((i.ev ρ).toNat * z + f) e (SV.denL ρ β l) 0 _ w hheap (mk_of hlen hmk) (by simpa using hfit) (by
       intro u hu
       rw [qQa] at hu
       obtain ⟨y, hy, rfl⟩ := List.mem_map.1 hu
       exact qJz (SV.one_den hρ β (List.all_eq_true.1 hone y hy)))
      simp only [Nat.add_zero, qQe] at hst
      rw [hlm, ← hz] at hst
      rw [hup] at hst
      have hq' : (E.f 14 q i x').ev ρ = updZ (q.ev ρ) (i.ev ρ) (x'.ev ρ) := by
       simp only [E.ev, qZu hρ (n := 14) (by omega) (by omega)]; rfl
      obtain ⟨r1, r2⟩ := hs2.reset (b' := .arr cks e (.f 14 q i x') n) (cur := (rowV cks (updZ (q.ev ρ) (i.ev ρ) (x'.ev ρ)) (n.ev ρ).toNat ++ tl).toArray) hj2 (by simp [SBlk.occ, hq]) (by simp [SBlk.occ, hq]) hheap
       (.inr ⟨tl, hq, ⟨mk, hmk, by rw [hq']⟩, by rw [hq']; simpa [qQi] using hlen, hmax⟩)
      refine ⟨_, ?_, r1, (qJd e12 β w).trans r2⟩
      rw [qKc ρ β (.own j) z i f (a := ⟨(β j).1, 0, none⟩) (by simp only [qJc]; rw [if_neg (by omega)])]
      have hmm : (SV.denL ρ β l).length = m := by simp [hlm]
      simp only [Instr.storeAt, Instr.sureAddr, storeVar, hcl, Sem.run_bind, Sem.run_pure, Result.andThen_ok, qQz hm, qQu, Nat.zero_add]
      simp only [List.size_toArray, hmm, ne_eq, not_true_eq_false, if_false]
      rw [← hz]
      exact hst
    ·cases h
   ·cases h
  ·cases h
 ·rename_i j base z len i f
  split at h
  ·rename_i L e o l vl m hj hl hvl hm
   split at h
   ·rename_i cks hcks
    split at h
    ·rename_i hc
     simp only [Bool.and_eq_true, beq_iff_eq, decide_eq_true_eq] at hc
     obtain ⟨⟨hz, hlm⟩, hm0⟩ := hc
     split at h
     ·rename_i q hg
      split at h
      ·rename_i x' hx'
       obtain ⟨s1, e1, hs1, h1, h⟩ := qQk hs h
       obtain ⟨s2, e2, hs2, h2, h⟩ := qQk hs1 h
       cases h
       have g1 := qQw hρ h1
       have g2 := qJh hρ h2
       simp only [E.ev] at g1 g2
       obtain ⟨hfl, hel⟩ := newP_ok hρ β hx'
       have e12 : s2.bl = s.bl := e2.trans e1
       have hj2 : s2.bl[j]? = some (.cells L e o) := by rw [e12]; exact hj
       obtain ⟨hl1, hl2⟩ := cellN_drop hj _ base hl
       obtain ⟨hln, _⟩ := hs.cellN _ base hl
       have hgv := gatherZ_ok hρ β hg (by rw [hz]; exact hln)
       obtain ⟨tl, hheap, htl, hcap⟩ := hs2.blk j _ hj2
       have hi : (i.ev ρ).toNat < len := by omega
       have hsum : (i.ev ρ).toNat * z + f + vl.length ≤ len * z := by
        have : (i.ev ρ).toNat * z + z ≤ len * z := by rw [← Nat.succ_mul]; exact Nat.mul_le_mul_right _ hi
        omega
       have hbl : base + len * z ≤ L.length := by
        rw [hl1] at hln; simp at hln; omega
       obtain ⟨hcl, hone⟩ := SV.cells_den hρ β hvl
       have hqz : rowV cks (q.ev ρ) len = SV.denL ρ β ((L.drop base).take (len * z)) := by rw [← hl1]; exact hgv.symm
       have hup := rowV_upd cks (q.ev ρ) hi (SV.denL ρ β vl) f (by simpa using hfl) [] (by rw [qQe, hel, E.rdA_ev hρ])
       simp only [List.append_nil, qQe] at hup
       have hq' : (E.f 14 q i x').ev ρ = updZ (q.ev ρ) (i.ev ρ) (x'.ev ρ) := by
        simp only [E.ev, qZu hρ (n := 14) (by omega) (by omega)]; rfl
       have hnew : SV.denL ρ β (qJs cx cks (.f 14 q i x') len 0) = rowV cks (updZ (q.ev ρ) (i.ev ρ) (x'.ev ρ)) len := by
        rw [rowCells_den hρ, hq']; rfl
       have hrl : (qJs cx cks (.f 14 q i x') len 0).length = len * z := by
        have := congrArg List.length hnew
        rw [qQe, qQi, hz] at this; exact this
       -- the list of values, cut in three
       have hL : SV.denL ρ β L = SV.denL ρ β (L.take base) ++ rowV cks (q.ev ρ) len ++ SV.denL ρ β (L.drop (base + len * z)) := by
        rw [hqz, ← qQf, ← qQf]
        congr 1
        rw [List.append_assoc, ← List.drop_drop, List.take_append_drop, List.take_append_drop]
       have hN : SV.denL ρ β (setLL L base (qJs cx cks (.f 14 q i x') len 0)) = SV.denL ρ β (L.take base) ++ rowV cks (updZ (q.ev ρ) (i.ev ρ) (x'.ev ρ)) len ++ SV.denL ρ β (L.drop (base + len * z)) := by
        unfold setLL
        rw [qQf, qQf, hnew, hrl]
       have hbase : (SV.denL ρ β (L.take base)).length = base := by rw [qQe, List.length_take]; omega
       have hlen' : (setLL L base (qJs cx cks (.f 14 q i x') len 0)).length = L.length := by
        have h1 := congrArg List.length hN
        have h2 := congrArg List.length hL
        simp only [List.length_append, qQi, qQe] at h1 h2
        omega
       have hcur : (SV.denL ρ β L ++ tl).take (base + ((i.ev ρ).toNat * z + f)) ++ SV.denL ρ β vl ++ (SV.denL ρ β L ++ tl).drop (base + ((i.ev ρ).toNat * z + f) + vl.length) = SV.denL ρ β (setLL L base (qJs cx cks (.f 14 q i x') len 0)) ++ tl := by
        rw [hN, ← hup, hL]
        have hm3 := list_mid (SV.denL ρ β (L.take base)) (rowV cks (q.ev ρ) len) (SV.denL ρ β (L.drop (base + len * z)) ++ tl) (SV.denL ρ β vl) ((i.ev ρ).toNat * z + f) vl.length (by simp) (by rw [qQi, hz]; exact hsum)
        rw [hbase] at hm3
        simp only [List.append_assoc] at hm3 ⊢
        rw [hz]
        exact hm3
       have hst := run_storeCells_at cx.P (β j).1 (base + ((i.ev ρ).toNat * z + f)) e (SV.denL ρ β vl) 0 _ w hheap (by simp; omega) (by
        intro u hu
        rw [qQa] at hu
        obtain ⟨y, hy, rfl⟩ := List.mem_map.1 hu
        exact qJz (SV.one_den hρ β (List.all_eq_true.1 hone y hy)))
       simp only [Nat.add_zero, qQe] at hst
       rw [hcur] at hst
       obtain ⟨r1, r2⟩ := hs2.reset (b' := .cells (setLL L base (qJs cx cks (.f 14 q i x') len 0)) e o) (cur := (SV.denL ρ β (setLL L base (qJs cx cks (.f 14 q i x') len 0)) ++ tl).toArray) hj2 rfl rfl hheap
        ⟨tl, rfl, htl, fun sz hsz => by have := hcap sz hsz; simpa [hlen'] using this⟩
       refine ⟨_, ?_, r1, (qJd e12 β w).trans r2⟩
       have hmm : (SV.denL ρ β vl).length = m := by simp [hlm]
       simp only [SV.den, Instr.storeAt, Instr.sureAddr, storeVar, hcl, Sem.run_bind, Sem.run_pure, Result.andThen_ok, qQz hm]
       simp only [List.size_toArray, hmm, ne_eq, not_true_eq_false, if_false]
       rw [Nat.add_assoc]
       exact hst
      ·cases h
     ·cases h
    ·cases h
   ·cases h
  ·cases h
 ·split at h
  ·rename_i s2 h2
   cases h
   obtain ⟨w', a1, a2, a3, _⟩ := storeS_ok hρ hs h2
   exact ⟨w', a1, a2, a3⟩
  ·cases h
end
def storeT (cx : Cx) (t : TypeId) (x v : SV) (s : St) : T St :=
 match unflX x with
 | some (.own j, z, i, jx) => (match s.bl[j]?, v.cells, szT cx t with
  | some (.arr (k :: k2 :: cks) e q n), some [v1], some 1 =>
   if cks.length + 2 == z && (k2 :: cks).all (fun c => decide (c = k)) then
    (match codeOf cx k v1 with
    | some ce => obl s (leE cx (.c 0) i) fun s => obl s (ltE cx i n) fun s => obl s (leE cx (.c 0) jx) fun s => obl s (ltE cx jx (.c z)) fun s =>
     .leaf { s with bl := s.bl.set j (.arr (k :: k2 :: cks) e (.f 14 q i (.f 14 (E.rdA q i) jx ce)) n) }
    | none => storeT0 cx t x v s)
   else storeT0 cx t x v s
  | _, _, _ => storeT0 cx t x v s)
 | _ => storeT0 cx t x v s
theorem elem_one (cks : List CK) (k : CK) (x v : Int) (f : Nat) (h2 : 2 ≤ cks.length) (hf : cks[f]? = some k) :
  qQc cks (updZ x f v) = (qQc cks x).take f ++ [ckV k v] ++ (qQc cks x).drop (f + 1) := by
 have hl : f < cks.length := (List.getElem?_eq_some_iff.1 hf).1
 have he : ∀ y, qQc cks y = qXn y 0 cks := fun y => by
  rcases cks with _ | ⟨a, _ | ⟨b, l⟩⟩
  ·rfl
  ·simp at h2
  ·rfl
 rw [he, he]
 have hln : (qXn x 0 cks).length = cks.length := by rw [← he, qQd]
 refine List.ext_getElem? fun r => ?_
 rw [qJi]
 by_cases g : r < f
 ·rw [List.append_assoc, List.getElem?_append_left (by rw [List.length_take, hln]; omega), List.getElem?_take, if_pos g, qJi, qZr, if_neg (by omega)]
 ·by_cases g2 : r = f
  ·subst g2
   rw [List.append_assoc, List.getElem?_append_right (by rw [List.length_take, hln]; omega), List.length_take, hln, Nat.min_eq_left (Nat.le_of_lt hl), Nat.sub_self, List.singleton_append, List.getElem?_cons_zero, hf, qZr, if_pos (by omega)]; rfl
  ·rw [List.getElem?_append_right (by rw [List.length_append, List.length_take, hln]; simp; omega), List.length_append, List.length_take, hln, Nat.min_eq_left (Nat.le_of_lt hl), List.length_singleton, List.getElem?_drop, qJi, qZr, if_neg (by omega)]
   have : f + 1 + (r - (f + 1)) = r := by omega
   rw [this]
section
variable {cx : Cx} {ρ : Env} (hρ : EnvOk cx ρ) {β : Bt} {s s' : St} {w : World}
include hρ
theorem storeT_ok (hs : Sat ρ β s w) {t : TypeId} {X v : SV} (h : (storeT cx t X v s).sel ρ = some s') :
  ∃ w', (Instr.storeAt t (X.den ρ β) (v.den ρ β)).run cx.P w = .ok () w' ∧ Sat ρ β s' w' ∧ Ext s s' β β w w' := by
 unfold storeT at h
 split at h
 ·rename_i j z i jx hx
  split at h
  ·rename_i k k2 cks e q n v1 hj hl hm
   split at h
   ·rename_i hc
    simp only [Bool.and_eq_true, beq_iff_eq] at hc
    obtain ⟨hz, hk⟩ := hc
    split at h
    ·rename_i ce hce
     obtain ⟨s1, e1, hs1, h1, h⟩ := qQk hs h
     obtain ⟨s2, e2, hs2, h2, h⟩ := qQk hs1 h
     obtain ⟨s3, e3, hs3, h3, h⟩ := qQk hs2 h
     obtain ⟨s4, e4, hs4, h4, h⟩ := qQk hs3 h
     cases h
     have g1 := qQw hρ h1
     have g2 := qJh hρ h2
     have g3 := qQw hρ h3
     have g4 := qJh hρ h4
     simp only [E.ev] at g1 g3 g4
     have e12 : s4.bl = s.bl := e4.trans (e3.trans (e2.trans e1))
     have hj2 : s4.bl[j]? = some (.arr (k :: k2 :: cks) e q n) := by rw [e12]; exact hj
     obtain ⟨z', hzz, rfl⟩ := unflX_ok hx
     have hlen2 : (k :: k2 :: cks).length = z := by simp only [List.length_cons]; omega
     have hkk : (k :: k2 :: cks)[(jx.ev ρ).toNat]? = some k := by
      have : (k :: k2 :: cks).all (fun c => decide (c = k)) = true := by rw [List.all_cons, hk]; simp
      exact same_get this _ (by simp only [List.length_cons]; omega)
     rcases hs4.blk j _ hj2 with ⟨_, h0⟩ | ⟨tl, hq, ⟨mk, hmk, hheap⟩, hlen, hmax⟩
     ·omega
     ·have hin : (i.ev ρ).toNat < (n.ev ρ).toNat := by omega
      have hx' : (E.f 14 (E.rdA q i) jx ce).ev ρ = updZ (rdZ (q.ev ρ) (i.ev ρ)) (((jx.ev ρ).toNat : Nat) : Int) (ce.ev ρ) := by
       rw [show (((jx.ev ρ).toNat : Nat) : Int) = jx.ev ρ by omega]
       simp only [E.ev, qZu hρ (n := 14) (by omega) (by omega), E.rdA_ev hρ]; rfl
      have hup := rowV_upd (k :: k2 :: cks) (q.ev ρ) hin (SV.denL ρ β [v1]) (jx.ev ρ).toNat (by simp only [SV.denL, List.length_cons, List.length_nil]; omega) tl (x' := (E.f 14 (E.rdA q i) jx ce).ev ρ) (by
       rw [hx', elem_one _ k _ _ _ (by simp only [List.length_cons]; omega) hkk]
       simp only [SV.denL, qYz hρ β hce, List.length_cons, List.length_nil])
      simp only [SV.denL, List.length_cons, List.length_nil] at hup
      have hfit : (i.ev ρ).toNat * z + (jx.ev ρ).toNat + 1 ≤ (rowV (k :: k2 :: cks) (q.ev ρ) (n.ev ρ).toNat ++ tl).toArray.size := by
       simp only [List.size_toArray, List.length_append, qQi, hlen2]
       have : (i.ev ρ).toNat * z + z ≤ (n.ev ρ).toNat * z := by
        rw [← Nat.succ_mul]; exact Nat.mul_le_mul_right _ hin
       omega
      obtain ⟨hcl, hone⟩ := SV.cells_den hρ β hl
      have hst := qZf cx.P (β j).1 ((i.ev ρ).toNat * z + (jx.ev ρ).toNat) e (SV.denL ρ β [v1]) 0 _ w hheap (mk_of hlen hmk) (by simpa [SV.denL] using hfit) (by
       intro u hu
       rw [qQa] at hu
       obtain ⟨y, hy, rfl⟩ := List.mem_map.1 hu
       exact qJz (SV.one_den hρ β (List.all_eq_true.1 hone y hy)))
      simp only [Nat.add_zero, SV.denL, List.length_cons, List.length_nil, Nat.zero_add] at hst
      rw [← hlen2] at hst
      simp only [List.length_cons, Nat.zero_add] at hst hup
      rw [hup] at hst
      have hq' : (E.f 14 q i (E.f 14 (E.rdA q i) jx ce)).ev ρ = updZ (q.ev ρ) (i.ev ρ) ((E.f 14 (E.rdA q i) jx ce).ev ρ) := by
       simp only [E.ev, qZu hρ (n := 14) (by omega) (by omega)]; rfl
      obtain ⟨r1, r2⟩ := hs4.reset (b' := .arr (k :: k2 :: cks) e (.f 14 q i (.f 14 (E.rdA q i) jx ce)) n) (cur := (rowV (k :: k2 :: cks) (updZ (q.ev ρ) (i.ev ρ) ((E.f 14 (E.rdA q i) jx ce).ev ρ)) (n.ev ρ).toNat ++ tl).toArray) hj2 (by simp [SBlk.occ, hq]) (by simp [SBlk.occ, hq]) hheap
       (.inr ⟨tl, hq, ⟨mk, hmk, by rw [hq']⟩, by rw [hq']; simpa [qQi] using hlen, hmax⟩)
      refine ⟨_, ?_, r1, (qJd e12 β w).trans r2⟩
      rw [qKc ρ β (.own j) 1 _ 0 (a := ⟨(β j).1, 0, none⟩) (by simp only [qJc]; rw [if_neg (by omega)]), flat_toNat (by omega) g1 g3]
      simp only [Instr.storeAt, Instr.sureAddr, storeVar, hcl, Sem.run_bind, Sem.run_pure, Result.andThen_ok, qQz hm, qQu, Nat.zero_add, SV.denL]
      simp only [List.size_toArray, List.length_cons, List.length_nil, Nat.zero_add, ne_eq, not_true_eq_false, if_false, Nat.mul_one, Nat.add_zero]
      rw [show z'.toNat = cks.length + 1 + 1 by omega]
      exact hst
    ·exact storeT0_ok hρ hs h
   ·exact storeT0_ok hρ hs h
  ·exact storeT0_ok hρ hs h
 ·exact storeT0_ok hρ hs h
end
end Go.Eng
end

/-!  -/
noncomputable section
namespace Go.Eng
def lenT (cx : Cx) (ats : Array TypeId) (x : SV) (s : St) : R :=
 match ats[0]? with
 | none => .bad 230
 | some t => match cx.und t, x with
  | some (.slice _), .sl _ _ _ len _ => obl s (leE cx (.c 0) len) fun s => ret s (.int .i64 len)
  | some .string, .str e => ret s (.int .i64 (.f 21 e (.c 0) (.c 0)))
  | _, _ => (match lenS cx ats x with
   | some v => ret s v
   | none => .bad 231)
theorem lenT_ok {cx : Cx} {ρ : Env} (hρ : EnvOk cx ρ) {β : Bt} {s s' : St} {w : World} (hs : Sat ρ β s w) {ats : Array TypeId} {ty : TypeId} {X v : SV} {args : Array Value} (h0 : args[0]? = some (X.den ρ β))
  (h : (lenT cx ats X s).sel ρ = some (v, s')) : LookOk cx ρ β s s' w (Builtin.len_ ats ty args) v := by
 unfold lenT at h
 split at h
 ·cases h
 ·rename_i t ht
  split at h
  ·rename_i e b z off len cap hu
   obtain ⟨s1, e1, hs1, h1, h⟩ := qQk hs h
   cases h
   have g1 := qQw hρ h1
   simp only [E.ev] at g1
   refine ⟨?_, e1, hs1⟩
   rw [qXk] at h0
   simp [Builtin.len_, ht, h0, qQx hu, SV.den, goInt]
   omega
  ·rename_i e hu
   cases h
   refine ⟨?_, rfl, hs⟩
   have hsz := qZb (e.ev ρ)
   simp only [SV.den] at h0
   simp only [Builtin.len_, ht, h0, Sem.run_bind, qQx hu, Result.andThen_ok, SV.den, E.ev, qZu hρ (n := 21) (by omega) (by omega), fL, goInt, Sem.run_pure, hsz]
  ·split at h
   ·rename_i r hr
    cases h
    exact ⟨lenS_ok h0 hr, rfl, hs⟩
   ·cases h
def optE : Option SV → E → Option E
 | none, d => some d
 | some (.int _ e), _ => some e
 | _, _ => none
def cutOff (cx : Cx) (cap off lo : E) : E :=
 match lo with
 | .c 0 => off
 | lo => match E.b' cx .eq .i64 cap lo with
  | .c n => if n = 0 then addE off lo else off
  | t => .ite t off (addE off lo)
def isZero : E → Bool
 | .c n => decide (n = 0)
 | _ => false
theorem qKj {e : E} (h : isZero e = true) : e = .c 0 := by cases e <;> simp [isZero] at h; rw [h]
theorem strOf_eq' {s : Int} {b : ByteArray} (h1 : rdZ s 0 = b.size) (h2 : (b.size : Int) ≤ qKz) (h3 : ∀ i : Nat, (h : i < b.size) → rdZ (rdZ s 1) i % 256 = (b.data[i]'h).toNat) : qQv s = b := by
 have hl : qZt s = b.size := by unfold qZt; unfold qKz at h2 ⊢; rw [h1]; split <;> (try split) <;> omega
 have : (qQv s).data = b.data := by
  apply Array.ext
  ·have := qZb s
   have e : ((qQv s).size : Int) = b.size := by rw [this, hl]
   have : (qQv s).size = b.size := by omega
   exact this
  ·intro i hi1 hi2
   have hib : i < b.size := hi2
   have h := strOf_get s i (by rw [hl]; omega)
   rw [Array.getElem?_eq_getElem hi1] at h
   rw [Option.some.inj h]
   have h4 := h3 i hib
   unfold qJf
   rw [h4, Int.toNat_natCast]
   simp
 cases hs : qQv s
 cases b
 simp_all
def cutE (e l h : E) : E := .f 11 (subE h l) (.f 11 (.f 18 (E.rdA e (.c 1)) l (.c 0)) (.c 0) (.c 0)) (.c 0)
theorem cut_str {s s' l h : Int} (h0 : 0 ≤ l) (h1 : l ≤ h) (h2 : h ≤ qZt s) (e0 : rdZ s' 0 = h - l) (e1 : ∀ i : Nat, rdZ (rdZ s' 1) i = rdZ (rdZ s 1) (l + i)) : qQv s' = (qQv s).extract l.toNat h.toNat := by
 have hsz := qZb s
 have hmx := (slenZ_bd s).2
 have hsize : ((qQv s).extract l.toNat h.toNat).size = (h - l).toNat := by
  rw [ByteArray.size_extract]; omega
 refine strOf_eq' (by rw [e0, hsize]; omega) (by rw [hsize]; omega) fun i hi => ?_
 rw [hsize] at hi
 rw [e1 i]
 have hg := strOf_get s (l.toNat + i) (by omega)
 have hlt : l.toNat + i < (qQv s).data.size := (Array.getElem?_eq_some_iff.1 hg).1
 have hv : ((qQv s).extract l.toNat h.toNat).data[i]? = (qQv s).data[l.toNat + i]? := by
  rw [ByteArray.data_extract, Array.getElem?_extract, if_pos (by
   have : (qQv s).data.size = (qQv s).size := rfl
   omega)]
 rw [hg] at hv
 obtain ⟨_, hv⟩ := Array.getElem?_eq_some_iff.1 hv
 rw [hv]
 have hb := sbyteZ_bd s ((l.toNat + i : Nat) : Int)
 have he : qJf s ((l.toNat + i : Nat) : Int) = rdZ (rdZ s 1) (l + i) % 256 := by
  unfold qJf; rw [show ((l.toNat + i : Nat) : Int) = l + i by omega]
 rw [← he]
 generalize qJf s ((l.toNat + i : Nat) : Int) = b at hb ⊢
 simp
 omega
def againT (cx : Cx) (b : Bs) (z : Nat) (off len : E) (cap : Option E) (l h n : E) (s : St) : R :=
 match b with
 | .own _ => obl s (leE cx h len) fun s => obl s (leE cx (addE off len) n) fun s => (match isZero l with
  | true => ret s (.sl b z off h cap)
  | false => (match l with
   | .c k => if 0 < k then ret s (.sl b z (addE off l) (subE h l) (some (.f 10 off (.c 0) (.c 0)))) else .bad 240
   | _ => .bad 240))
 | _ => .bad 240
def sliceT (cx : Cx) (t : TypeId) (x : SV) (lo hi mx : Option SV) (s : St) : R :=
 match cx.und t, x, mx with
 | some (.slice e), .sl b z off len cap, none =>
  (match optE lo (.c 0), optE hi len, qKv cx s b, szT cx e with
  | some l, some h, some (cks, _, n), some z' =>
   if z' == z && cks.length == z && decide (0 < z) && lo0 (off.iv cx) then
    obl s (leE cx (.c 0) l) fun s => obl s (leE cx l h) fun s => obl s (leE cx (.c 0) len) fun s =>
    (match cap with
    | some cp => if (qKy cp).isSome then againT cx b z off len (some cp) l h n s else if (qKy (subE cp l)).isNone then obl s (leE cx h cp) fun s => ret s (.sl b z (cutOff cx cp off l) (subE h l) (some (subE cp l))) else .bad 240
    | none => match b with
     | .own _ => if isZero off then obl s (leE cx h n) fun s => ret s (.sl b z l (subE h l) none) else againT cx b z off len none l h n s
     | _ => .bad 240)
   else .bad 241
  | _, _, _, _ => .bad 242)
 | some (.slice e), .lit (.slice none 0 0), none =>
  (match optE lo (.c 0), optE hi (.c 0), szT cx e with
  | some l, some h, some _ => obl s (leE cx (.c 0) l) fun s => obl s (leE cx l h) fun s => obl s (leE cx h (.c 0)) fun s => ret s (.lit (.slice none 0 0))
  | _, _, _ => .bad 242)
 | some .string, .str e, none =>
  (match optE lo (.c 0), optE hi (.f 21 e (.c 0) (.c 0)) with
  | some l, some h => obl s (leE cx (.c 0) l) fun s => obl s (leE cx l h) fun s => obl s (leE cx h (.f 21 e (.c 0) (.c 0))) fun s => ret s (.str (cutE e l h))
  | _, _ => .bad 244)
 | _, _, _ => (match sliceS cx t x lo hi mx s with
  | some v => ret s v
  | none => .bad 243)
section
variable {cx : Cx} {ρ : Env} (hρ : EnvOk cx ρ) {β : Bt} {s s' : St} {w : World}
include hρ
theorem cutOff_ev (cap off lo : E) : (cutOff cx cap off lo).ev ρ = if lo.ev ρ = 0 then off.ev ρ else if cap.ev ρ = lo.ev ρ then off.ev ρ else off.ev ρ + lo.ev ρ := by
 have hq := E.b'_ev hρ .eq .i64 cap lo
 simp only [BO.ev] at hq
 have key : (match E.b' cx .eq .i64 cap lo with
  | .c n => if n = 0 then addE off lo else off
  | t => .ite t off (addE off lo)).ev ρ = if cap.ev ρ = lo.ev ρ then off.ev ρ else off.ev ρ + lo.ev ρ := by
  split
  ·rename_i n hn
   rw [hn] at hq
   simp only [E.ev, qQj] at hq
   split at hq
   ·rename_i hh
    simp at hh
    subst hq
    simp [hh]
   ·rename_i hh
    simp at hh
    subst hq
    simp [hh, qJx]
  ·rename_i t _
   simp only [E.ev, hq, qQj]
   split
   ·rename_i hh
    simp at hh
    simp [hh]
   ·rename_i hh
    simp at hh
    simp [hh, qJx]
 unfold cutOff
 split
 ·simp [E.ev]
 ·rename_i hne
  rw [key]
  by_cases h0 : lo.ev ρ = 0
  ·simp [h0]
  ·simp [h0]
omit hρ in
def isCut : Option E → Bool
 | none => true
 | some q => (qKy q).isSome
omit hρ in
theorem slCap_some (ρ : Env) (β : Bt) (b : Bs) (off : E) {q : E} (h : qKy q = none) : slCap ρ β b off (some q) = (q.ev ρ).toNat := by cases b <;> simp [slCap, h]
omit hρ in
theorem slOff_some (ρ : Env) (β : Bt) (b : Bs) (z : Nat) (off : E) {q : E} (h : qKy q = none) : qKf ρ β b z off (some q) = (off.ev ρ).toNat * z := by cases b <;> simp [qKf, h]
omit hρ in
theorem own_cut (ρ : Env) (β : Bt) (j z : Nat) (off : E) {cap : Option E} (h : isCut cap = true) :
  ∃ e : Nat, qKf ρ β (.own j) z off cap = (if (β j).2.1 - 1 = (off.ev ρ).toNat then min e (off.ev ρ).toNat * z else (off.ev ρ).toNat * z) ∧ slCap ρ β (.own j) off cap = (β j).2.1 - 1 - (off.ev ρ).toNat := by
 cases cap with
 | none => exact ⟨0, by simp [qKf], rfl⟩
 | some q =>
  cases hq : qKy q with
  | none => simp [isCut, hq] at h
  | some e => exact ⟨(e.ev ρ).toNat, by simp [qKf, hq], by simp [slCap, hq]⟩
omit hρ in
theorem qJw {lo : Option SV} {d l : E} (h : optE lo d = some l) {y : Nat} {c : BoundsCode} (hl : 0 ≤ l.ev ρ) (hy : l.ev ρ ≤ y) :
  ∀ v, lo = some v → (Instr.sliceBound (v.den ρ β) y c).run cx.P w = .ok (l.ev ρ).toNat w := by
 rintro v rfl
 cases v <;> simp only [optE] at h <;> try (cases h; done)
 cases h
 simp [Instr.sliceBound, SV.den, asIntOf, hl, hy]
theorem sliceT_ok (hs : Sat ρ β s w) {t : TypeId} {X v : SV} {lo hi mx : Option SV} (h : (sliceT cx t X lo hi mx s).sel ρ = some (v, s')) :
  LookOk cx ρ β s s' w (Instr.sliceAt t (X.den ρ β) (lo.map (SV.den ρ β)) (hi.map (SV.den ρ β)) (mx.map (SV.den ρ β))) v := by
 unfold sliceT at h
 split at h
 ·rename_i e b z off len cap hu
  split at h
  ·rename_i l hh cks q n z' hl hh' hrow hz'
   split at h
   ·rename_i hc
    simp only [Bool.and_eq_true, beq_iff_eq, decide_eq_true_eq] at hc
    obtain ⟨⟨⟨rfl, hcks⟩, hz0⟩, hoff⟩ := hc
    obtain ⟨s1, e1, hs1, h1, hA⟩ := qQk hs h
    obtain ⟨s2, e2, hs2, h2, hB⟩ := qQk hs1 hA
    obtain ⟨s3, e3, hs3, h3, hC⟩ := qQk hs2 hB
    clear h hA hB
    have g1 := qQw hρ h1
    have g2 := qQw hρ h2
    have g3 := qQw hρ h3
    have g0 := lo0_ok hoff (E.iv_ok hρ off)
    simp only [E.ev] at g1 g3
    -- the bounds
    have hbounds : ∀ CAP : Nat, hh.ev ρ ≤ CAP ∨ hi = none → (Instr.sliceBounds true (len.ev ρ).toNat CAP (lo.map (SV.den ρ β)) (hi.map (SV.den ρ β)) none).run cx.P w = .ok ((l.ev ρ).toNat, (hh.ev ρ).toNat, CAP) w := by
     intro CAP hcap
     cases hi with
     | none =>
      simp only [optE, Option.some.injEq] at hh'
      subst hh'
      cases lo with
      | none =>
       simp only [optE, Option.some.injEq] at hl
       subst hl
       simp [Instr.sliceBounds, E.ev]
      | some lv =>
       have := qJw (cx := cx) (β := β) (w := w) hl (y := (len.ev ρ).toNat) (c := .sliceB) g1 (by omega) lv rfl
       simp [Instr.sliceBounds, this]
     | some hv =>
      have hcap' : hh.ev ρ ≤ CAP := by
       rcases hcap with h | h
       ·exact h
       ·cases h
      have b1 := qJw (cx := cx) (β := β) (w := w) hh' (y := CAP) (c := .sliceAcap) (by omega) hcap' hv rfl
      cases lo with
      | none =>
       simp only [optE, Option.some.injEq] at hl
       subst hl
       simp [Instr.sliceBounds, b1, E.ev]
      | some lv =>
       have b2 := qJw (cx := cx) (β := β) (w := w) hl (y := (hh.ev ρ).toNat) (c := .sliceB) g1 (by omega) lv rfl
       simp [Instr.sliceBounds, b1, b2]
    have again : ∀ {s3 : St} (e3 : s3.bl = s.bl) (hs3 : Sat ρ β s3 w) (_ : isCut cap = true) (_ : (againT cx b z' off len cap l hh n s3).sel ρ = some (v, s')),
      LookOk cx ρ β s s' w (Instr.sliceAt t ((SV.sl b z' off len cap).den ρ β) (lo.map (SV.den ρ β)) (hi.map (SV.den ρ β)) ((none : Option SV).map (SV.den ρ β))) v := by
     intro s3 e3 hs3 hcut hC
     unfold againT at hC
     cases b with
     | inp k => cases hC
     | own j =>
      simp only at hC
      obtain ⟨s4, e4, hs4, h4, hD⟩ := qQk hs3 hC
      obtain ⟨s5, e5, hs5, h5, hE⟩ := qQk hs4 hD
      clear hC hD
      have g4 := qQw hρ h4
      have g5 := qQw hρ h5
      rw [qJx] at g5
      have hcapn : (n.ev ρ).toNat ≤ (β j).2.1 - 1 := by
       simp only [qKv] at hrow
       split at hrow
       ·rename_i cks' e' q' n' hj
        cases hrow
        rcases hs.blk j _ hj with ⟨_, h0⟩ | ⟨tl, hq, ⟨mk, hmk, hheap⟩, hlen, hmax⟩
        ·omega
        ·have hle : (n.ev ρ).toNat * cks.length ≤ ((β j).2.1 - 1) * cks.length := by
          rw [← hlen, List.length_append, qQi]; omega
         exact Nat.le_of_mul_le_mul_right hle (by omega)
       ·cases hrow
      obtain ⟨e, ho, hk⟩ := own_cut ρ β j z' off hcut
      have hb := hbounds ((β j).2.1 - 1 - (off.ev ρ).toNat) (.inl (by omega))
      split at hE
      ·rename_i hz
       have := qKj hz
       subst this
       cases hE
       refine ⟨?_, e5.trans (e4.trans e3), hs5⟩
       rw [qXk, qXk]
       simp only [ho, hk, Option.map_none, Instr.sliceAt, Instr.slice, Sem.run_bind, qQx hu, Result.andThen_ok, hb, qQz hz', Sem.run_pure]
       simp only [E.ev, Int.toNat_zero, Nat.zero_mul, Nat.sub_zero]
       have hid : ((qJc ρ β (.own j)).map (·.add (qKf ρ β (.own j) z' off cap))).map (·.add 0) = (qJc ρ β (.own j)).map (·.add (qKf ρ β (.own j) z' off cap)) := by
        cases qJc ρ β (.own j) with
        | none => rfl
        | some a => simp [qJj]
       rw [ho] at hid
       rw [hid]
       simp only [ite_self]
      ·split at hE
       ·rename_i k _
        split at hE
        ·rename_i hk0
         cases hE
         refine ⟨?_, e5.trans (e4.trans e3), hs5⟩
         obtain ⟨e', ho', hk'⟩ := own_cut ρ β j z' (addE off (.c k)) (cap := some (.f 10 off (.c 0) (.c 0))) rfl
         have hX : qKf ρ β (.own j) z' (addE off (.c k)) (some (.f 10 off (.c 0) (.c 0))) = if (β j).2.1 - 1 = ((addE off (.c k)).ev ρ).toNat then (off.ev ρ).toNat * z' else ((addE off (.c k)).ev ρ).toNat * z' := by
          simp only [qKf, qKy, qJx, E.ev]
          split
          ·rw [Nat.min_eq_left (by omega)]
          ·rfl
         rw [qXk, qXk]
         simp only [ho, hk, hk', hX, Option.map_none, Instr.sliceAt, Instr.slice, Sem.run_bind, qQx hu, Result.andThen_ok, hb, qQz hz', Sem.run_pure, subE_ev, qJx]
         simp only [E.ev] at g1 g2 ⊢
         have hne : ¬ (β j).2.1 - 1 = (off.ev ρ).toNat := by omega
         rw [if_neg hne]
         congr 1
         have hc : ((β j).2.1 - 1 - (off.ev ρ).toNat = k.toNat) ↔ ((β j).2.1 - 1 = (off.ev ρ + k).toNat) := by omega
         have hp : ∀ {c : Prop} [Decidable c] (_ : c ↔ (β j).2.1 - 1 - (off.ev ρ).toNat = k.toNat), (if c then (qJc ρ β (.own j)).map (·.add ((off.ev ρ).toNat * z')) else ((qJc ρ β (.own j)).map (·.add ((off.ev ρ).toNat * z'))).map (·.add (k.toNat * z'))) = (qJc ρ β (.own j)).map (·.add (if (β j).2.1 - 1 = (off.ev ρ + k).toNat then (off.ev ρ).toNat * z' else (off.ev ρ + k).toNat * z')) := by
          intro c _ hcc
          by_cases hq : (β j).2.1 - 1 = (off.ev ρ + k).toNat
          ·rw [if_pos (hcc.2 (hc.2 hq))]
           simp only [if_pos hq]
          ·rw [if_neg (fun h => hq (hc.1 (hcc.1 h)))]
           simp only [if_neg hq]
           rw [Option.map_map]
           congr 1
           funext a
           simp only [Function.comp, qJj]
           congr 1
           rw [Int.toNat_add g0 (by omega), Nat.add_mul]
         congr 1
         ·exact hp Iff.rfl
         ·omega
         ·omega
        ·cases hE
       ·cases hE
    cases cap with
    | some cp =>
     simp only at hC
     split at hC
     case isTrue hnc => exact again (e3.trans (e2.trans e1)) hs3 (by simpa [isCut] using hnc) hC
     rename_i nc1
     split at hC
     case isFalse => cases hC
     rename_i nc2
     simp only [Option.isNone_iff_eq_none] at nc2
     simp only [Bool.not_eq_true, Option.isSome_eq_false_iff, Option.isNone_iff_eq_none] at nc1
     obtain ⟨s4, e4, hs4, h4, hD⟩ := qQk hs3 hC
     cases hD
     have g4 := qQw hρ h4
     refine ⟨?_, e4.trans (e3.trans (e2.trans e1)), hs4⟩
     rw [qXk, qXk]
     have hb := hbounds (cp.ev ρ).toNat (.inl (by omega))
     simp only [slCap_some _ _ _ _ nc1, slOff_some _ _ _ _ _ nc1, slCap_some _ _ _ _ nc2, slOff_some _ _ _ _ _ nc2, Option.map_none, Instr.sliceAt, Instr.slice, Sem.run_bind, qQx hu, Result.andThen_ok, hb, qQz hz', Sem.run_pure, subE_ev, cutOff_ev hρ]
     congr 1
     have ec : ((cp.ev ρ).toNat = (l.ev ρ).toNat) ↔ (cp.ev ρ = l.ev ρ) := by omega
     by_cases hcl : cp.ev ρ = l.ev ρ
     ·rw [if_pos (ec.2 hcl), if_pos hcl]
      simp only [ite_self]
      congr 1 <;> omega
     ·rw [if_neg (fun h => hcl (ec.1 h)), if_neg hcl]
      have : ((qJc ρ β b).map (·.add ((off.ev ρ).toNat * z'))).map (·.add ((l.ev ρ).toNat * z')) = (qJc ρ β b).map (·.add ((if l.ev ρ = 0 then off.ev ρ else off.ev ρ + l.ev ρ).toNat * z')) := by
       rw [Option.map_map]
       congr 1
       funext a
       simp only [Function.comp, qJj]
       congr 1
       split
       ·rename_i h0; rw [h0]; simp
       ·rw [Int.toNat_add g0 g1, Nat.add_mul]
      rw [this]
      congr 1 <;> omega
    | none =>
     cases b with
     | inp k => cases hC
     | own j =>
      simp only at hC
      split at hC
      case isFalse => exact again (e3.trans (e2.trans e1)) hs3 rfl hC
      rename_i hzz
      have ho0 := qKj hzz
      subst ho0
      obtain ⟨s4, e4, hs4, h4, hD⟩ := qQk hs3 hC
      cases hD
      have g4 := qQw hρ h4
      refine ⟨?_, e4.trans (e3.trans (e2.trans e1)), hs4⟩
      rw [qXk, qXk, slOff_zero]
      -- the capacity is not less than what is told
      have hcapn : (n.ev ρ).toNat ≤ (β j).2.1 - 1 := by
       simp only [qKv] at hrow
       split at hrow
       ·rename_i cks' e' q' n' hj
        cases hrow
        rcases hs.blk j _ hj with ⟨_, h0⟩ | ⟨tl, hq, ⟨mk, hmk, hheap⟩, hlen, hmax⟩
        ·omega
        ·have hle : (n.ev ρ).toNat * cks.length ≤ ((β j).2.1 - 1) * cks.length := by
          rw [← hlen, List.length_append, qQi]; omega
         exact Nat.le_of_mul_le_mul_right hle (by omega)
       ·cases hrow
      have hb := hbounds ((β j).2.1 - 1) (.inl (by omega))
      simp only [slCap, qKf, E.ev, Option.map_none, Instr.sliceAt, Instr.slice, Sem.run_bind, qQx hu, Result.andThen_ok, qQz hz', Sem.run_pure, hb, subE_ev]
      simp only [Int.toNat_zero, Nat.sub_zero, hb, Result.andThen_ok, qQz hz', Sem.run_pure, Sem.run_bind]
      congr 1
      have hlen2 : (hh.ev ρ).toNat - (l.ev ρ).toNat = (hh.ev ρ - l.ev ρ).toNat := by omega
      rw [hlen2]
      split
      ·simp
      ·rw [Option.map_map]
       congr 2
   ·cases h
  ·cases h
 ·rename_i e hu
  split at h
  ·rename_i l hh z' hl hh' hz'
   obtain ⟨s1, e1, hs1, h1, hA⟩ := qQk hs h
   obtain ⟨s2, e2, hs2, h2, hB⟩ := qQk hs1 hA
   obtain ⟨s3, e3, hs3, h3, hC⟩ := qQk hs2 hB
   cases hC
   have g1 := qQw hρ h1
   have g2 := qQw hρ h2
   have g3 := qQw hρ h3
   simp only [E.ev] at g1 g3
   have l0 : l.ev ρ = 0 := by omega
   have h0 : hh.ev ρ = 0 := by omega
   refine ⟨?_, e3.trans (e2.trans e1), hs3⟩
   have hb : (Instr.sliceBounds true 0 0 (lo.map (SV.den ρ β)) (hi.map (SV.den ρ β)) none).run cx.P w = .ok (0, 0, 0) w := by
    cases hi with
    | none =>
     cases lo with
     | none => simp [Instr.sliceBounds]
     | some lv =>
      have := qJw (cx := cx) (ρ := ρ) (β := β) (w := w) hl (y := 0) (c := .sliceB) (by omega) (by omega) lv rfl
      simp [Instr.sliceBounds, this, l0]
    | some hv =>
     have b1 := qJw (cx := cx) (ρ := ρ) (β := β) (w := w) hh' (y := 0) (c := .sliceAcap) (by omega) (by omega) hv rfl
     cases lo with
     | none => simp [Instr.sliceBounds, b1, h0]
     | some lv =>
      have b2 := qJw (cx := cx) (ρ := ρ) (β := β) (w := w) hl (y := 0) (c := .sliceB) (by omega) (by omega) lv rfl
      simp [Instr.sliceBounds, b1, b2, l0, h0]
   simp only [SV.den, Option.map_none, Instr.sliceAt, Instr.slice, Sem.run_bind, qQx hu, Result.andThen_ok, hb, qQz hz', Sem.run_pure]
   rfl
  ·cases h
 ·rename_i e hu
  split at h
  ·rename_i l hh hl hh'
   obtain ⟨s1, e1, hs1, h1, hA⟩ := qQk hs h
   obtain ⟨s2, e2, hs2, h2, hB⟩ := qQk hs1 hA
   obtain ⟨s3, e3, hs3, h3, hC⟩ := qQk hs2 hB
   cases hC
   have g1 := qQw hρ h1
   have g2 := qQw hρ h2
   have g3 := qQw hρ h3
   simp only [E.ev, qZu hρ (n := 21) (by omega) (by omega), fL] at g1 g3
   have hsz := qZb (e.ev ρ)
   refine ⟨?_, e3.trans (e2.trans e1), hs3⟩
   have hb : (Instr.sliceBounds false (qQv (e.ev ρ)).size (qQv (e.ev ρ)).size (lo.map (SV.den ρ β)) (hi.map (SV.den ρ β)) none).run cx.P w = .ok ((l.ev ρ).toNat, (hh.ev ρ).toNat, (qQv (e.ev ρ)).size) w := by
    cases hi with
    | none =>
     simp only [optE, Option.some.injEq] at hh'
     subst hh'
     simp only [E.ev, qZu hρ (n := 21) (by omega) (by omega), fL] at g2 ⊢
     cases lo with
     | none =>
      simp only [optE, Option.some.injEq] at hl
      subst hl
      simp [Instr.sliceBounds, E.ev]; omega
     | some lv =>
      have := qJw (cx := cx) (ρ := ρ) (β := β) (w := w) hl (y := (qQv (e.ev ρ)).size) (c := .sliceB) g1 (by omega) lv rfl
      simp [Instr.sliceBounds, this]; omega
    | some hv =>
     have b1 := qJw (cx := cx) (ρ := ρ) (β := β) (w := w) hh' (y := (qQv (e.ev ρ)).size) (c := .sliceAlen) (by omega) (by omega) hv rfl
     cases lo with
     | none =>
      simp only [optE, Option.some.injEq] at hl
      subst hl
      simp [Instr.sliceBounds, b1, E.ev]
     | some lv =>
      have b2 := qJw (cx := cx) (ρ := ρ) (β := β) (w := w) hl (y := (hh.ev ρ).toNat) (c := .sliceB) g1 (by omega) lv rfl
      simp [Instr.sliceBounds, b1, b2]
   have hcut : qQv ((cutE e l hh).ev ρ) = (qQv (e.ev ρ)).extract (l.ev ρ).toNat (hh.ev ρ).toNat := by
    have hc : (cutE e l hh).ev ρ = qQq (hh.ev ρ - l.ev ρ) (qQq (dropZ (rdZ (e.ev ρ) 1) (l.ev ρ)) 0) := by
     unfold cutE
     simp only [E.ev, qZu hρ (n := 11) (by omega) (by omega), qZu hρ (n := 18) (by omega) (by omega), fL, E.rdA_ev hρ, subE_ev]
    refine cut_str g1 g2 g3 (by rw [hc, qQy]) fun i => ?_
    rw [hc, qQh _ _ (by omega), show (1 : Int) - 1 = 0 by omega, qQy, rdZ_drop]
    congr 1; omega
   simp only [SV.den, Option.map_none, Instr.sliceAt, Instr.slice, Sem.run_bind, qQx hu, Result.andThen_ok, hcut]
   simp only [Option.isSome_none, Bool.false_eq_true, if_false, Sem.run_bind, hb, Result.andThen_ok, Sem.run_pure]
  ·cases h
 ·split at h
  ·rename_i r hr
   cases h
   exact ⟨sliceS_ok hs hr, rfl, hs⟩
  ·cases h
end
def sliceU (cx : Cx) (t : TypeId) (x : SV) (lo hi mx : Option SV) (s : St) : R :=
 match x with
 | .lit (.string b) => (match sliceS cx t x lo hi mx s with
  | some v => ret s v
  | none => if b.size ≤ 1000000 then sliceT cx t (.str (strLit b)) lo hi mx s else .bad 243)
 | x => sliceT cx t x lo hi mx s
theorem sliceU_ok {cx : Cx} {ρ : Env} (hρ : EnvOk cx ρ) {β : Bt} {s s' : St} {w : World} (hs : Sat ρ β s w) {t : TypeId} {X v : SV} {lo hi mx : Option SV} (h : (sliceU cx t X lo hi mx s).sel ρ = some (v, s')) :
  LookOk cx ρ β s s' w (Instr.sliceAt t (X.den ρ β) (lo.map (SV.den ρ β)) (hi.map (SV.den ρ β)) (mx.map (SV.den ρ β))) v := by
 unfold sliceU at h
 split at h
 ·rename_i b
  split at h
  ·rename_i r hr
   cases h
   exact ⟨sliceS_ok hs hr, rfl, hs⟩
  ·split at h
   ·rename_i hb
    have := sliceT_ok hρ hs h
    have e : (SV.str (strLit b)).den ρ β = (SV.lit (.string b)).den ρ β := by
     show Value.string (qQv _) = _
     rw [strLit_den hρ hb]; rfl
    rw [e] at this
    exact this
   ·cases h
 ·exact sliceT_ok hρ hs h
theorem Sat.shr {ρ : Env} {β : Bt} {s : St} {w : World} (hs : Sat ρ β s w) {j : Nat} {cks : List CK} {e : TypeId} {q n n' : E} (hj : s.bl[j]? = some (.arr cks e q n)) (h1 : n'.ev ρ ≤ n.ev ρ) :
  Sat ρ β { s with bl := s.bl.set j (.arr cks e q n') } w ∧ Ext s { s with bl := s.bl.set j (.arr cks e q n') } β β w w := by
 have hls : ∀ i, live β { s with bl := s.bl.set j (.arr cks e q n') } i ↔ live β s i := live_set hj rfl
 have hx : Ext s { s with bl := s.bl.set j (.arr cks e q n') } β β w w := by
  refine ⟨fun _ _ => rfl, fun i _ hl => (hls i).1 hl, ?_, Nat.le_refl _, fun _ _ _ => rfl, by simp, rfl, rfl, rfl⟩
  intro i hi hl
  have := qQt ((hls i).1 hl)
  omega
 refine hs.mk' hx ?_ ?_ hs.kn
 ·intro i b2 hi
  by_cases hij : j = i
  ·subst hij
   have hlt := (List.getElem?_eq_some_iff.1 hj).1
   simp [hlt] at hi
   subst hi
   rcases hs.blk _ _ hj with ⟨c0, n0⟩ | ⟨tl, c0, ⟨mk, hmk, hob⟩, hlen, hmx⟩
   ·exact .inl ⟨c0, by omega⟩
   ·have hcut : rowV cks (q.ev ρ) (n.ev ρ).toNat = rowV cks (q.ev ρ) (n'.ev ρ).toNat ++ (rowV cks (q.ev ρ) (n.ev ρ).toNat).drop ((n'.ev ρ).toNat * cks.length) := by
     have ht : (rowV cks (q.ev ρ) (n.ev ρ).toNat).take ((n'.ev ρ).toNat * cks.length) = rowV cks (q.ev ρ) (n'.ev ρ).toNat := by
      unfold rowV
      exact tabL_take (fun _ => qQd _ _) _ _ _ (by omega)
     rw [← ht, List.take_append_drop]
    refine .inr ⟨(rowV cks (q.ev ρ) (n.ev ρ).toNat).drop ((n'.ev ρ).toNat * cks.length) ++ tl, c0, ?_, ?_, hmx⟩
    ·rw [← List.append_assoc, ← hcut]; exact ⟨mk, hmk, hob⟩
    ·rw [← List.append_assoc, ← hcut]; exact hlen
  ·rw [List.getElem?_set_ne hij] at hi
   exact hs.blk i b2 hi
 ·intro a b ha hb
  exact hs.inj a b ((hls a).1 ha) ((hls b).1 hb)
def shrR (cx : Cx) (x v : SV) (s : St) : R :=
 match x, v with
 | .sl (.own j) _ off len none, .sl (.own j') _ l n' none =>
  if Nat.ble 1000 cx.sh && Nat.beq j j' && isZero off && isZero l then
   (match s.bl[j]? with
   | some (.arr cks e q n) => if n.beq len then obl s (leE cx n' n) fun s => ret { s with bl := s.bl.set j (.arr cks e q n') } v else ret s v
   | _ => ret s v)
  else ret s v
 | _, _ => ret s v
theorem shrR_ok {cx : Cx} {ρ : Env} (hρ : EnvOk cx ρ) {β : Bt} {s s' : St} {w : World} (hs : Sat ρ β s w) {x v r : SV} (h : (shrR cx x v s).sel ρ = some (r, s')) : r = v ∧ Sat ρ β s' w ∧ Ext s s' β β w w := by
 unfold shrR at h
 split at h
 ·split at h
  ·split at h
   ·rename_i hj
    split at h
    ·obtain ⟨s1, e1, hs1, h1, h⟩ := qQk hs h
     cases h
     have g1 := qQw hρ h1
     rw [← e1] at hj
     obtain ⟨a, b⟩ := hs1.shr hj g1
     exact ⟨rfl, a, (qJd e1 β w).trans b⟩
    ·cases h; exact ⟨rfl, hs, Ext.refl _ _ _⟩
   ·cases h; exact ⟨rfl, hs, Ext.refl _ _ _⟩
  ·cases h; exact ⟨rfl, hs, Ext.refl _ _ _⟩
 ·cases h; exact ⟨rfl, hs, Ext.refl _ _ _⟩
inductive Src where
 | list (l : List E)
 | row (d off m : E)
def dropE (d off : E) : E :=
 match off with
 | .c 0 => d
 | off => .f 18 d off (.c 0)
def Src.n : Src → E
 | .list l => .c l.length
 | .row _ _ m => m
def putsE (q n : E) : List E → E
 | [] => q
 | x :: l => putsE (.f 14 q n x) (addE n (.c 1)) l
def Src.put (q n : E) : Src → E
 | .list l => putsE q n l
 | .row d off _ => .f 16 q n (dropE d off)
def Src.at (ρ : Env) : Src → Nat → Int
 | .list l, i => ((l[i]?).map (E.ev ρ)).getD 0
 | .row d off _, i => rdZ (d.ev ρ) (((off.ev ρ).toNat + i : Nat) : Int)
theorem putsE_ev {cx : Cx} {ρ : Env} (hρ : EnvOk cx ρ) : ∀ (l : List E) (q n : E), 0 ≤ n.ev ρ → ∀ i : Nat, i < (n.ev ρ).toNat + l.length →
  rdZ ((putsE q n l).ev ρ) i = if i < (n.ev ρ).toNat then rdZ (q.ev ρ) i else ((l[i - (n.ev ρ).toNat]?).map (E.ev ρ)).getD 0
 | [], q, n, hn, i, hi => by
  simp only [List.length_nil, Nat.add_zero] at hi
  simp only [putsE]; rw [if_pos hi]
 | x :: l, q, n, hn, i, hi => by
  have hn1 : (addE n (.c 1)).ev ρ = n.ev ρ + 1 := by rw [qJx]; rfl
  have hn2 : ((addE n (.c 1)).ev ρ).toNat = (n.ev ρ).toNat + 1 := by rw [hn1]; omega
  simp only [putsE]
  rw [putsE_ev hρ l _ _ (by rw [hn1]; omega) i (by rw [hn2]; simp at hi; omega), hn2]
  have hq : ((E.f 14 q n x).ev ρ) = updZ (q.ev ρ) (n.ev ρ) (x.ev ρ) := by
   simp only [E.ev, qZu hρ (n := 14) (by omega) (by omega)]; rfl
  rw [hq, qZr, Int.toNat_natCast]
  by_cases h1 : i < (n.ev ρ).toNat
  ·rw [if_pos (by omega), if_neg (by omega), if_pos h1]
  ·rw [if_neg h1]
   by_cases h2 : i = (n.ev ρ).toNat
   ·rw [if_pos (by omega), if_pos h2, h2]; simp
   ·rw [if_neg (by omega), show i - (n.ev ρ).toNat = (i - ((n.ev ρ).toNat + 1)) + 1 by omega, List.getElem?_cons_succ]
theorem dropE_ev {cx : Cx} {ρ : Env} (hρ : EnvOk cx ρ) (d off : E) (i : Nat) : rdZ ((dropE d off).ev ρ) i = rdZ (d.ev ρ) (((off.ev ρ).toNat + i : Nat) : Int) := by
 unfold dropE
 split
 ·simp [E.ev]
 ·simp only [E.ev, qZu hρ (n := 18) (by omega) (by omega), fL]
  rw [rdZ_drop, Int.toNat_natCast]
theorem Src.put_ev {cx : Cx} {ρ : Env} (hρ : EnvOk cx ρ) (x : Src) (q n : E) (hn : 0 ≤ n.ev ρ) (i : Nat) (hi : i < (n.ev ρ).toNat + (x.n.ev ρ).toNat) :
  rdZ ((x.put q n).ev ρ) i = if i < (n.ev ρ).toNat then rdZ (q.ev ρ) i else x.at ρ (i - (n.ev ρ).toNat) := by
 cases x with
 | list l =>
  simp only [Src.n, E.ev, Int.toNat_natCast] at hi
  exact putsE_ev hρ l q n hn i hi
 | row d off m =>
  simp only [Src.put, Src.at]
  have : ((E.f 16 q n (dropE d off)).ev ρ) = appZ (q.ev ρ) (n.ev ρ) ((dropE d off).ev ρ) := by
   simp only [E.ev, qZu hρ (n := 16) (by omega) (by omega)]; rfl
  rw [this, rdZ_app, Int.toNat_natCast]
  split
  ·rfl
  ·rw [dropE_ev hρ]
def srcOf (cx : Cx) (cks : List CK) (y : SV) (s : St) : Option Src :=
 match y with
 | .slice j off m _ => match s.cellN j off (m * cks.length) with
  | some l => (chunkP cx cks cks.length m l).map .list
  | none => none
 | .lit (.slice none 0 _) => some (.list [])
 | .sl b z off m _ => match qKv cx s b with
  | some (cks', d, _) => if z == cks.length && decide (cks' = cks) then some (.row d off m) else none
  | none => none
 | _ => none
def srcOb (cx : Cx) (y : SV) (s : St) (k : St → R) : R :=
 match y with
 | .sl b _ off m _ => match qKv cx s b with
  | some (_, _, n) => obl s (leE cx (.c 0) off) fun s => obl s (leE cx (.c 0) m) fun s => obl s (leE cx (addE off m) n) k
  | none => .bad 250
 | _ => k s
section
variable {cx : Cx} {ρ : Env} (hρ : EnvOk cx ρ) {β : Bt} {s s' : St} {w : World}
include hρ
theorem srcOf_ok (hs : Sat ρ β s w) {cks : List CK} (hz : 0 < cks.length) {y : SV} {x : Src} (h : srcOf cx cks y s = some x) {k : St → R} {r : SV × St} (hk : (srcOb cx y s k).sel ρ = some r) :
  ∃ s1, s1.bl = s.bl ∧ Sat ρ β s1 w ∧ (k s1).sel ρ = some r ∧ 0 ≤ x.n.ev ρ ∧ ∃ a c, y.den ρ β = .slice a (x.n.ev ρ).toNat c ∧
   ((x.n.ev ρ).toNat ≠ 0 → ∃ a', a = some a' ∧ ∀ i v, (tabL (fun i => qQc cks (x.at ρ i)) 0 (x.n.ev ρ).toNat)[i]? = some v → w.cell? (a'.add i) = some v) := by
 unfold srcOf at h
 split at h
 ·rename_i j off m c
  split at h
  ·rename_i l hl
   obtain ⟨es, hes, rfl⟩ := Option.map_eq_some_iff.1 h
   obtain ⟨hln, hcells⟩ := hs.cellN _ off hl
   obtain ⟨g1, g2⟩ := qYj hρ β m hes hln
   simp only [srcOb] at hk
   refine ⟨s, rfl, hs, hk, by simp [Src.n, E.ev], some ⟨(β j).1, off, none⟩, _, by simp [SV.den, Src.n, E.ev, g1]; rfl, fun _ => ⟨_, rfl, fun i v hv => ?_⟩⟩
   have hd := g2 0 ((Src.list es).at ρ) (fun i _ => by simp [Src.at])
   simp only [Src.n, E.ev, Int.toNat_natCast, g1] at hv
   rw [← hd, qJa] at hv
   obtain ⟨y, hy, rfl⟩ := Option.map_eq_some_iff.1 hv
   rw [qQu]
   exact hcells i y hy
  ·cases h
 ·cases h
  simp only [srcOb] at hk
  exact ⟨s, rfl, hs, hk, by simp [Src.n, E.ev], none, _, by simp [SV.den, Src.n, E.ev]; rfl, fun h => absurd rfl h⟩
 ·rename_i b z off m c
  split at h
  ·rename_i cks' d n hrow
   split at h
   ·rename_i hc
    simp only [Bool.and_eq_true, beq_iff_eq, decide_eq_true_eq] at hc
    obtain ⟨rfl, rfl⟩ := hc
    cases h
    simp only [srcOb, hrow] at hk
    obtain ⟨s1, e1, hs1, h1, hk⟩ := qQk hs hk
    obtain ⟨s2, e2, hs2, h2, hk⟩ := qQk hs1 hk
    obtain ⟨s3, e3, hs3, h3, hk⟩ := qQk hs2 hk
    have g1 := qQw hρ h1
    have g2 := qQw hρ h2
    have g3 := qQw hρ h3
    rw [qJx] at g3
    simp only [E.ev] at g1 g2
    refine ⟨s3, e3.trans (e2.trans e1), hs3, hk, g2, _, _, qXk ρ β b _ off m c, fun hm => ?_⟩
    simp only [Src.n] at hm ⊢
    obtain ⟨a, ha, _⟩ := qJr hρ hs hrow (i := (off.ev ρ).toNat) (by omega)
    rw [ha]
    refine ⟨_, rfl, fun i v hv => ?_⟩
    have hlen := qZe (f := fun i => qQc cks' ((Src.row d off m).at ρ i)) (z := cks'.length) (fun _ => qQd _ _) (m.ev ρ).toNat 0
    have hi : i < (m.ev ρ).toNat * cks'.length := by rw [← hlen]; exact (List.getElem?_eq_some_iff.1 hv).1
    have hk1 : i / cks'.length < (m.ev ρ).toNat := Nat.div_lt_of_lt_mul (by rw [Nat.mul_comm]; exact hi)
    have hr1 : i % cks'.length < cks'.length := Nat.mod_lt _ hz
    have hii : i = i / cks'.length * cks'.length + i % cks'.length := by rw [Nat.mul_comm]; exact (Nat.div_add_mod _ _).symm
    rw [hii, tabL_get (fun _ => qQd _ _) _ _ _ _ hk1 hr1, Nat.zero_add] at hv
    obtain ⟨a2, ha2, hcell⟩ := qJr hρ hs hrow (i := (off.ev ρ).toNat + i / cks'.length) (by omega)
    rw [ha] at ha2
    cases ha2
    have := hcell (i % cks'.length) v hv
    rw [qJj, slOff_in hs hrow (by omega) c]
    rw [hii, show (off.ev ρ).toNat * cks'.length + (i / cks'.length * cks'.length + i % cks'.length) = ((off.ev ρ).toNat + i / cks'.length) * cks'.length + i % cks'.length by rw [Nat.add_mul]; omega]
    exact this
   ·cases h
  ·cases h
 ·cases h
end
inductive Dst where
 | nil
 | arr (j : Nat) (e : TypeId) (q n : E)
 | conc (j : Nat) (e : TypeId) (q n : E)
def Dst.q : Dst → E
 | .nil => .c 0
 | .arr _ _ q _ => q
 | .conc _ _ q _ => q
def Dst.n : Dst → E
 | .nil => .c 0
 | .arr _ _ _ n => n
 | .conc _ _ _ n => n
def Dst.st (s : St) : Dst → St
 | .nil => s
 | .arr j _ _ _ => s.drop j
 | .conc j _ _ _ => s.drop j
def dstOf' (cx : Cx) (cks : List CK) (e : TypeId) (x : SV) (s : St) : Option Dst :=
 match x with
 | .lit (.slice none 0 0) => some .nil
 | .sl (.own j) z (.c 0) len none => match s.bl[j]? with
  | some (.arr cks' e' q n) => if z == cks.length && decide (cks' = cks) && e' == e && n.beq len then some (.arr j e q n) else none
  | _ => none
 | .slice j 0 n c => match s.bl[j]? with
  | some (.cells l e' o) => if e' == e && decide (n * cks.length ≤ l.length) && capOk c o l.length cks.length then
    (chunkP cx cks cks.length n (l.take (n * cks.length))).map fun es => .conc j e (qQr es) (.c n) else none
  | _ => none
 | _ => none
def RowAtD (ρ : Env) (β : Bt) (s : St) (w : World) (cks : List CK) (e : TypeId) (d : Dst) (V : Value) : Prop :=
 (V = .slice none 0 0 ∧ (d.n.ev ρ).toNat = 0 ∧ ∀ (j : Nat) (b : SBlk), s.bl[j]? = some b → (d.st s).bl[j]? = some b ∨ ((d.st s).bl[j]? = some SBlk.gone ∧ b.occ (β j).2.1 = false)) ∨
 (∃ (j : Nat) (b : SBlk) (cap : Nat) (tl : List Value), s.bl[j]? = some b ∧ b.occ (β j).2.1 = true ∧ d.st s = s.drop j ∧ V = .slice (some ⟨(β j).1, 0, none⟩) (d.n.ev ρ).toNat cap ∧
  (∃ mk, mkFree (cap * cks.length) mk ∧ w.heap[(β j).1]? = some (.cells (rowV cks (d.q.ev ρ) (d.n.ev ρ).toNat ++ tl).toArray e mk)) ∧ (rowV cks (d.q.ev ρ) (d.n.ev ρ).toNat ++ tl).length = cap * cks.length ∧ cap ≤ maxLen)
theorem dstOf_ok {cx : Cx} {ρ : Env} (hρ : EnvOk cx ρ) {β : Bt} {s : St} {w : World} (hs : Sat ρ β s w) {cks : List CK} {e : TypeId} {x : SV} {d : Dst} (h : dstOf' cx cks e x s = some d) :
  RowAtD ρ β s w cks e d (x.den ρ β) := by
 unfold dstOf' at h
 split at h
 ·cases h
  exact .inl ⟨rfl, by simp [Dst.n, E.ev], fun j b hj => .inl hj⟩
 ·rename_i j z len
  split at h
  ·rename_i cks' e' q n hj
   split at h
   ·rename_i hc
    simp only [Bool.and_eq_true, beq_iff_eq, decide_eq_true_eq] at hc
    obtain ⟨⟨⟨rfl, rfl⟩, rfl⟩, hn⟩ := hc
    have hn := E.eq_of_beq hn
    subst hn
    cases h
    rcases hs.blk j _ hj with ⟨h0, hn0⟩ | ⟨tl, hq, ⟨mk, hmk, hheap⟩, hlen, hmax⟩
    ·left
     refine ⟨by simp [SV.den, h0, hn0], hn0, fun i b hi => ?_⟩
     by_cases hij : i = j
     ·subst hij
      right
      rw [hj] at hi
      cases hi
      refine ⟨?_, by simp [SBlk.occ, h0]⟩
      have := (List.getElem?_eq_some_iff.1 hj).1
      show (s.drop i).bl[i]? = _
      simp [St.drop, this]
     ·left
      show (s.drop j).bl[i]? = _
      simp [St.drop, List.getElem?_set_ne (Ne.symm hij), hi]
    ·right
     refine ⟨j, _, (β j).2.1 - 1, tl, hj, by simp [SBlk.occ, hq], rfl, ?_, ⟨mk, hmk, hheap⟩, hlen, hmax⟩
     show _ = Value.slice _ (n.ev ρ).toNat _
     simp only [SV.den, E.ev]
     rw [if_neg (by omega)]
     simp
   ·cases h
  ·cases h
 ·rename_i j n c
  split at h
  ·rename_i l e' o hj
   split at h
   ·rename_i hc
    simp only [Bool.and_eq_true, beq_iff_eq, decide_eq_true_eq] at hc
    obtain ⟨⟨rfl, hln⟩, hcap⟩ := hc
    obtain ⟨es, hes, rfl⟩ := Option.map_eq_some_iff.1 h
    obtain ⟨g1, g2⟩ := qYj hρ β n hes (by simp; omega)
    obtain ⟨tl, hheap, htl, hcp⟩ := hs.blk j _ hj
    have hd := g2 0 (fun i => rdZ ((qQr es).ev ρ) i) (fun i _ => by rw [Nat.zero_add, qJo hρ])
    right
    refine ⟨j, _, c.getD (β j).2.1, SV.denL ρ β (l.drop (n * cks.length)) ++ tl, hj, rfl, rfl, by simp [SV.den, Dst.n, E.ev], ?_⟩
    have hrow : rowV cks ((qQr es).ev ρ) n ++ (SV.denL ρ β (l.drop (n * cks.length)) ++ tl) = SV.denL ρ β l ++ tl := by
     unfold rowV
     rw [← hd, ← List.append_assoc, ← qQf, List.take_append_drop]
    simp only [Dst.n, Dst.q, E.ev, Int.toNat_natCast]
    rw [hrow]
    refine ⟨⟨_, .inl rfl, hheap⟩, ?_⟩
    unfold capOk at hcap
    split at hcap
    ·simp only [Bool.and_eq_true, decide_eq_true_eq] at hcap
     rw [htl rfl]
     simp only [List.append_nil, qQe, Option.getD_some]
     exact ⟨hcap.1, by unfold maxLen; omega⟩
    ·simp only [decide_eq_true_eq] at hcap
     subst hcap
     exact hcp _ rfl
    ·cases hcap
   ·cases h
  ·cases h
 ·cases h
def appendT (cx : Cx) (cks : List CK) (ats : Array TypeId) (x y : SV) (s : St) : R :=
 match ats.toList with
 | [t, t'] =>
  (match cx.und t with
  | some (.slice e) => (match cx.inf e with
   | some i => (match i.zero with
    | some zv =>
     if decide (t = t') && decide (0 < i.size) && decide (zv.cells.size = i.size) && decide (i.bytes ≤ 1000000) && s.sc s.bl.length && (cks.length == i.size) then
      (match srcOf cx cks y s, dstOf' cx cks e x s with
      | some src, some d => srcOb cx y s fun s => obl s (leE cx (.c 0) d.n) fun s => obl s (leE cx (addE d.n src.n) (.c 1000000)) fun s =>
        ret ((d.st s).pushB (.arr cks e (src.put d.q d.n) (addE d.n src.n))) (.sl (.own s.bl.length) cks.length (.c 0) (addE d.n src.n) none)
      | _, _ => .bad 251)
     else .bad 252
    | none => .bad 253)
   | none => .bad 254)
  | _ => .bad 255)
 | _ => .bad 256
theorem St.drop_len (s : St) (j : Nat) : (s.drop j).bl.length = s.bl.length := by simp [St.drop]
theorem Dst.st_len (s : St) (d : Dst) : (d.st s).bl.length = s.bl.length := by cases d <;> simp [Dst.st, St.drop_len]
theorem drop_sc' {s : St} {j n : Nat} (h : s.sc n = true) : (s.drop j).sc n = true := by
 unfold St.sc St.drop at *
 rw [List.all_eq_true] at *
 intro b hb
 rcases List.mem_or_eq_of_mem_set hb with hb | rfl
 ·exact h b hb
 ·rfl
theorem Dst.st_sc {s : St} (d : Dst) {n : Nat} (h : s.sc n = true) : (d.st s).sc n = true := by
 cases d <;> simp only [Dst.st]
 ·exact h
 ·exact drop_sc' h
 ·exact drop_sc' h
theorem Sat.dst {ρ : Env} {β : Bt} {s : St} {w : World} (h : Sat ρ β s w) (d : Dst) : Sat ρ β (d.st s) w := by
 cases d <;> simp only [Dst.st]
 ·exact h
 ·exact h.drop _
 ·exact h.drop _
theorem Ext.dst (s : St) (d : Dst) (β : Bt) (w : World) : Ext s (d.st s) β β w w := by
 cases d <;> simp only [Dst.st]
 ·exact Ext.refl _ _ _
 ·exact Ext.drop _ _ _ _
 ·exact Ext.drop _ _ _ _
theorem sc_bl {s s1 : St} (e : s1.bl = s.bl) {n : Nat} (h : s.sc n = true) : s1.sc n = true := by unfold St.sc at *; rw [e]; exact h
theorem dstOf_bl {cx : Cx} {cks : List CK} {e : TypeId} {x : SV} {s s1 : St} (h : s1.bl = s.bl) : dstOf' cx cks e x s1 = dstOf' cx cks e x s := by
 unfold dstOf'; rw [h]
theorem Ext.pushed {ρ : Env} {β : Bt} {s : St} {w : World} {b : SBlk} {g q : Nat} (hg : b.occ q = true → ∃ i, live β s i ∧ (β i).1 = g) : Ext s (s.pushB b) β (bnew β s.bl.length g q) w w := by
 have hag : ∀ j, j < s.bl.length → bnew β s.bl.length g q j = β j := fun j hj => by unfold bnew; rw [if_neg (by omega)]
 refine ⟨hag, fun j hj hl => ?_, fun j hj hl => ?_, Nat.le_refl _, fun _ _ _ => rfl, by simp [St.pushB], rfl, rfl, rfl⟩
 ·rcases qQo hl with hl | ⟨rfl, _⟩
  ·exact qXz (hag j hj) hl
  ·omega
 ·rcases qQo hl with hl | ⟨rfl, ho⟩
  ·have := qQt hl; omega
  ·have e1 : bnew β s.bl.length g q s.bl.length = (g, q, .nilIface) := by simp [bnew]
   rw [e1] at ho ⊢
   exact .inr (hg ho)
section
variable {cx : Cx} {ρ : Env} (hρ : EnvOk cx ρ) {β : Bt} {s s' : St} {w : World}
include hρ
theorem appendT_ok {cks : List CK} {ats : Array TypeId} {ty : TypeId} {x y v : SV} (hs : Sat ρ β s w) (h : (appendT cx cks ats x y s).sel ρ = some (v, s')) :
  ∃ β' w', (Builtin.append_ ats ty #[x.den ρ β, y.den ρ β]).run cx.P w = .ok (v.den ρ β') w' ∧ Sat ρ β' s' w' ∧ Ext s s' β β' w w' := by
 unfold appendT at h
 split at h
 case h_2 => cases h
 rename_i t t' hats
 split at h
 case h_2 => cases h
 rename_i e hu
 split at h
 case h_2 => cases h
 rename_i i hi
 split at h
 case h_2 => cases h
 rename_i zv hz
 split at h
 case isFalse => cases h
 rename_i hc
 simp only [Bool.and_eq_true, decide_eq_true_eq, beq_iff_eq] at hc
 obtain ⟨⟨⟨⟨⟨htt, hsz⟩, hzs⟩, hby⟩, hsc⟩, hck⟩ := hc
 subst htt
 have hats' : ats = #[t, t] := by
  apply Array.ext'
  simpa using hats
 subst hats'
 split at h
 case h_2 => cases h
 rename_i src d hsrc hdst
 obtain ⟨s1, e1, hs1, h, hm0, a, c, hy, hya⟩ := srcOf_ok hρ hs (by omega) hsrc h
 obtain ⟨s2, e2, hs2, h1, h⟩ := qQk hs1 h
 obtain ⟨s3, e3, hs3, h2, h⟩ := qQk hs2 h
 cases h
 have e13 : s3.bl = s.bl := e3.trans (e2.trans e1)
 have hdst3 : dstOf' cx cks e x s3 = some d := by rw [dstOf_bl e13]; exact hdst
 have hx := dstOf_ok hρ hs3 hdst3
 have hsc3 : s3.sc s3.bl.length = true := sc_bl e13 (by rw [e13]; exact hsc)
 have g1 := qQw hρ h1
 have g2 := qQw hρ h2
 rw [qJx] at g2
 simp only [E.ev] at g1 g2
 have hN : ((addE d.n src.n).ev ρ).toNat = (d.n.ev ρ).toNat + (src.n.ev ρ).toNat := by rw [qJx, Int.toNat_add g1 hm0]
 generalize hNe : (d.n.ev ρ).toNat = N at *
 generalize hMe : (src.n.ev ρ).toNat = M at *
 have hNM : N + M ≤ 1000000 := by omega
 -- the new content
 have hcont : rowV cks ((src.put d.q d.n).ev ρ) (N + M) = rowV cks (d.q.ev ρ) N ++ tabL (fun i => qQc cks (src.at ρ i)) 0 M := by
  unfold rowV
  rw [qZk]
  congr 1
  ·refine qZv _ _ _ fun k hk => ?_
   simp only [Nat.zero_add]
   rw [Src.put_ev hρ src d.q d.n g1 k (by omega), hNe, if_pos hk]
  ·refine qZv _ _ _ fun k hk => ?_
   simp only [Nat.zero_add]
   have := Src.put_ev hρ src d.q d.n g1 (N + k) (by omega)
   rw [hNe, if_neg (by omega), Nat.add_sub_cancel_left] at this
   rw [← this]
 have hsz' : (sizeOf e).run cx.P w = .ok i.size w := qQz (by simp [szT, hi])
 have hext0 := qJd e13 β w
 have hstl := Dst.st_len s3 d
 have hval : ∀ g q : Nat, 0 < q → (SV.sl (.own s3.bl.length) cks.length (.c 0) (addE d.n src.n) none).den ρ (bnew β s3.bl.length g q) = .slice (some ⟨g, 0, none⟩) (N + M) (q - 1) := by
  intro g q hq
  simp only [SV.den, bnew, if_true, E.ev, hN]
  rw [if_neg (by omega)]
  simp
 have hval0 : (SV.sl (.own s3.bl.length) cks.length (.c 0) (addE d.n src.n) none).den ρ (bnew β s3.bl.length 0 0) = .slice none (N + M) 0 := by
  simp [SV.den, bnew, E.ev, hN]
 rcases Nat.eq_zero_or_pos M with rfl | hM
 ·-- nothing is appended
  have hfc : (Builtin.firstCells i.size 0 (.slice a 0 c)).run cx.P w = .ok #[] w := by
   cases a <;> simp [Builtin.firstCells, loadCells, loadCellsFrom]
  rcases hx with ⟨hxv, hn0, hgone⟩ | ⟨j, b, cap, tl, hj, ho, hst, hxv, ⟨mk, hmk, hheap⟩, hlen, hmax⟩
  ·rw [hNe] at hn0
   subst hn0
   refine ⟨bnew β s3.bl.length 0 0, w, ?_, ?_, ?_⟩
   ·rw [hxv, hy, hval0]
    simp [Builtin.append_, qQx hu, hsz', Builtin.lenOf, hfc]
   ·have := (hs3.dst d).pushB (b := .arr cks e (src.put d.q d.n) (addE d.n src.n)) (g := 0) (q := 0) (by rw [hstl]; exact Dst.st_sc d hsc3) rfl (.inl ⟨rfl, by rw [hN]⟩) (fun h => by simp [SBlk.occ] at h) (fun h => by simp [SBlk.occ] at h)
    rw [hstl] at this
    exact this
   ·have := Ext.pushed (ρ := ρ) (β := β) (s := d.st s3) (w := w) (b := .arr cks e (src.put d.q d.n) (addE d.n src.n)) (g := 0) (q := 0) (fun h => by simp [SBlk.occ] at h)
    rw [hstl] at this
    exact hext0.trans ((Ext.dst s3 d β w).trans this)
  ·rw [hNe] at hxv hheap hlen
   have hle : N ≤ cap := by
    have : N * cks.length ≤ cap * cks.length := by rw [← hlen, List.length_append, qQi]; omega
    exact Nat.le_of_mul_le_mul_right this (by omega)
   have hlive : live β s3 j := ⟨b, hj, ho⟩
   have hgok : qZw ρ β (cap + 1) (.arr cks e (src.put d.q d.n) (addE d.n src.n)) (w.heap[(β j).1]?) := by
    refine .inr ⟨tl, by omega, ?_, ?_, by simpa using hmax⟩
    ·exact ⟨mk, by simpa using hmk, by rw [hN, hcont, hheap]; simp [tabL]⟩
    ·rw [hN, hcont]; simp only [tabL, List.append_nil]; simpa using hlen
   refine ⟨bnew β s3.bl.length (β j).1 (cap + 1), w, ?_, ?_, ?_⟩
   ·rw [hxv, hy, hval _ _ (by omega)]
    simp [Builtin.append_, qQx hu, hsz', Builtin.lenOf, hfc, hle, storeCells]
   ·rw [hst]
    have := (hs3.drop j).pushB (b := .arr cks e (src.put d.q d.n) (addE d.n src.n)) (g := (β j).1) (q := cap + 1) (by rw [St.drop_len]; exact drop_sc' hsc3) rfl hgok
     (fun _ k hk he => (qQp.1 hk).2 (hs3.inj _ _ (qQp.1 hk).1 hlive he)) (fun _ k a' i' x' ha' hi' => (hs3.ro k a' i' x' ha' hi').2 j hlive)
    rw [St.drop_len] at this
    exact this
   ·rw [hst]
    have hag : ∀ k, k < s3.bl.length → bnew β s3.bl.length (β j).1 (cap + 1) k = β k := fun k hk => by unfold bnew; rw [if_neg (by omega)]
    refine hext0.trans ⟨hag, fun k hk hl => ?_, fun k hk hl => ?_, Nat.le_refl _, fun _ _ _ => rfl, by simp [St.pushB, St.drop], rfl, rfl, rfl⟩
    ·rcases qQo hl with hl | ⟨rfl, _⟩
     ·exact qXz (hag k hk) (qQp.1 hl).1
     ·rw [St.drop_len] at hk; omega
    ·rcases qQo hl with hl | ⟨rfl, _⟩
     ·have := qQt (qQp.1 hl).1; omega
     ·exact .inr ⟨j, hlive, by rw [St.drop_len]; simp [bnew]⟩
 ·-- something is
  obtain ⟨a', rfl, hcell⟩ := hya (by omega)
  generalize hnews : tabL (fun i => qQc cks (src.at ρ i)) 0 M = news at *
  have hnl : news.length = M * i.size := by rw [← hnews, qZe (fun _ => qQd _ _), hck]
  have hone : ∀ u ∈ news, u.oneCell' = true := by
   intro u hu
   rw [← hnews] at hu
   have : ∀ (n i0 : Nat), u ∈ tabL (fun i => qQc cks (src.at ρ i)) i0 n → u.oneCell' = true := by
    intro n
    induction n with
    | zero => intro i0 h; simp [tabL] at h
    | succ n ih =>
     intro i0 h
     simp only [tabL, List.mem_append] at h
     rcases h with h | h
     ·exact oneV_elemV _ _ u h
     ·exact ih _ h
   exact this M 0 hu
  rcases hx with ⟨hxv, hn0, hgone⟩ | ⟨j, b, cap, tl, hj, ho, hst, hxv, ⟨mk, hmk, hheap⟩, hlen, hmax⟩
  ·-- to nothing
   rw [hNe] at hn0
   subst hn0
   have hr := run_append_nil (P := cx.P) w t ty e i zv (cx.undOk _ _ hu) (cx.infOk _ _ hi) hz a' M c news hnl hcell hM (by omega) (by
    have := Nat.mul_le_mul (show M ≤ 1000000 by omega) hby; omega)
   have hge := grownCap_ge w M 0 e
   have hle := grownCap_le_maxLen w M 0 e (by unfold maxLen; omega)
   obtain ⟨l1, l2⟩ := (hs3.dst d).laid (b := .arr cks e (src.put d.q d.n) (addE d.n src.n)) (o := .cells (news.toArray ++ Builtin.zeroCells zv.cells (grownCap w M 0 e - M)) e) (q := grownCap w M 0 e + 1) (by rw [hstl]; exact Dst.st_sc d hsc3) rfl (by
    refine .inr ⟨(Builtin.zeroCells zv.cells (grownCap w M 0 e - M)).toList, by omega, ⟨_, .inl rfl, ?_⟩, ?_, by simpa using hle⟩
    ·rw [hN, hcont, toArr]; simp [rowV, tabL]
    ·rw [hN, hcont]
     simp only [rowV, tabL, List.nil_append, List.length_append, hnl, Array.length_toList, size_zeroCells, hzs, Nat.add_sub_cancel, hck, ← Nat.add_mul]
     congr 1; omega)
   rw [hstl] at l1 l2
   refine ⟨_, _, ?_, l1, hext0.trans ((Ext.dst s3 d β w).trans l2)⟩
   rw [hxv, hy, hval _ _ (by omega), hr]
   simp
  ·rw [hNe] at hxv hheap hlen
   have hlive : live β s3 j := ⟨b, hj, ho⟩
   by_cases hroom : N + M ≤ cap
   ·-- there is room
    have hfit : N * i.size + news.length ≤ (rowV cks (d.q.ev ρ) N ++ tl).toArray.size := by
     simp only [List.size_toArray, hlen, hnl, hck, ← Nat.add_mul]; exact Nat.mul_le_mul_right _ hroom
    have hr := run_append_roomM (P := cx.P) w t ty e i (cx.undOk _ _ hu) (cx.infOk _ _ hi) (β j).1 N cap (rowV cks (d.q.ev ρ) N ++ tl).toArray hheap (mk_of hlen hmk) a' M c news hnl hcell hone hroom hfit
    have hcur : (rowV cks (d.q.ev ρ) N ++ tl).take (N * i.size) ++ news ++ (rowV cks (d.q.ev ρ) N ++ tl).drop (N * i.size + news.length) = rowV cks ((src.put d.q d.n).ev ρ) (N + M) ++ tl.drop news.length := by
     have hrl : (rowV cks (d.q.ev ρ) N).length = N * i.size := by rw [qQi, hck]
     rw [hcont, List.take_append_of_le_length (by omega), List.take_of_length_le (by omega)]
     rw [List.drop_append, List.drop_of_length_le (by omega), hrl, List.nil_append]
     simp
    obtain ⟨t1, t2⟩ := hs3.turned (b' := .arr cks e (src.put d.q d.n) (addE d.n src.n)) (q := cap + 1) hj ho hheap hsc3 rfl (cur := (rowV cks ((src.put d.q d.n).ev ρ) (N + M) ++ tl.drop news.length).toArray) (by
     refine .inr ⟨tl.drop news.length, by omega, ⟨mk, by simpa using hmk, by rw [hN]⟩, ?_, by simpa using hmax⟩
     rw [hN]
     simp only [List.length_append, qQi, List.length_drop, Nat.add_sub_cancel, hck, hnl] at hlen ⊢
     have h5 : N * i.size + M * i.size ≤ cap * i.size := by rw [← Nat.add_mul]; exact Nat.mul_le_mul_right _ hroom
     rw [Nat.add_mul]
     omega)
    refine ⟨_, _, ?_, by rw [hst]; exact t1, by rw [hst]; exact hext0.trans t2⟩
    rw [hxv, hy, hval _ _ (by omega), hr, hcur]
    simp
   ·-- it grows
    have hr := run_append_grow (P := cx.P) w t ty e i zv (cx.undOk _ _ hu) (cx.infOk _ _ hi) hz ⟨(β j).1, 0, none⟩ N cap (rowV cks (d.q.ev ρ) N) (by rw [qQi, hck]) (by
      intro k u hk
      rw [qQu, Nat.zero_add]
      simp only [World.cell?, hheap, Option.isSome_none, Bool.false_eq_true, if_false, List.getElem?_toArray]
      rw [List.getElem?_append_left ((List.getElem?_eq_some_iff.1 hk).1)]
      exact hk) a' M c news hnl hcell
     (by omega) (by omega) (growslice_fits (by omega) (by have := Nat.mul_le_mul hNM hby; omega))
    have hge := grownCap_ge w (N + M) cap e
    have hle := grownCap_le_maxLen w (N + M) cap e (by unfold maxLen; omega)
    obtain ⟨l1, l2⟩ := (hs3.drop j).laid (b := .arr cks e (src.put d.q d.n) (addE d.n src.n)) (o := .cells ((rowV cks (d.q.ev ρ) N).toArray ++ news.toArray ++ Builtin.zeroCells zv.cells (grownCap w (N + M) cap e - (N + M))) e) (q := grownCap w (N + M) cap e + 1)
     (by rw [St.drop_len]; exact drop_sc' hsc3) rfl (by
     refine .inr ⟨(Builtin.zeroCells zv.cells (grownCap w (N + M) cap e - (N + M))).toList, by omega, ⟨_, .inl rfl, ?_⟩, ?_, by simpa using hle⟩
     ·rw [hN, hcont, List.append_toArray, toArr]
     ·rw [hN, hcont]
      simp only [List.length_append, qQi, hnl, Array.length_toList, size_zeroCells, hzs, Nat.add_sub_cancel, hck, ← Nat.add_mul]
      congr 1; omega)
    rw [St.drop_len] at l1 l2
    refine ⟨_, _, ?_, by rw [hst]; exact l1, by rw [hst]; exact hext0.trans ((Ext.drop s3 j β w).trans l2)⟩
    rw [hxv, hy, hval _ _ (by omega), hr]
    simp
end
end Go.Eng
end

/-!  -/
noncomputable section
namespace Go.Eng
def zeroP : CK → SV → Bool
 | .int k, .int k' (.c n) => decide (k = k') && n == 0
 | .bool, .bool (.c n) => n == 0
 | .str, .lit (.string b) => b.size == 0
 | _, _ => false
def zeroPL : List CK → List SV → Bool
 | [], [] => true
 | k :: l, x :: m => zeroP k x && zeroPL l m
 | _, _ => false
theorem strOf_nil : qQv 0 = ⟨#[]⟩ := by
 have hl : qZt 0 = 0 := by unfold qZt qKz; rw [rdZ_nil]; simp
 unfold qQv
 rw [hl]; rfl
theorem zeroP_den {ρ : Env} {β : Bt} {k : CK} {x : SV} (h : zeroP k x = true) : x.den ρ β = ckV k 0 := by
 unfold zeroP at h
 split at h
 ·simp at h; obtain ⟨rfl, rfl⟩ := h
  simp only [SV.den, ckV, E.ev]
  rename_i k
  cases k <;> rfl
 ·simp at h; subst h; rfl
 ·rename_i b
  simp at h
  simp only [SV.den, ckV, strOf_nil]
  obtain ⟨⟨l⟩⟩ := b
  have : l = [] := by
   have h2 : (ByteArray.mk ⟨l⟩).size = 0 := by rw [h]; rfl
   exact List.length_eq_zero_iff.1 h2
  subst this; rfl
 ·cases h
theorem zeroPL_den {ρ : Env} {β : Bt} : ∀ {l : List CK} {m : List SV} (f : Nat), zeroPL l m = true → SV.denL ρ β m = qXn 0 f l
 | [], [], f, _ => rfl
 | k :: l, x :: m, f, h => by
  simp only [zeroPL, Bool.and_eq_true] at h
  simp only [SV.denL, qXn, rdZ_nil, zeroP_den h.1, zeroPL_den (f + 1) h.2]
 | [], _ :: _, _, h => by cases h
 | _ :: _, [], _, h => by cases h
theorem elemV_zero (cks : List CK) : qQc cks 0 = qXn 0 0 cks := by
 unfold qQc
 split
 ·simp [qXn, rdZ_nil]
 ·rfl
theorem Sat.laidW {ρ : Env} {β : Bt} {s : St} {w w' : World} (hs : Sat ρ β s w) {b : SBlk} {o : Obj} {q : Nat} (hsc : s.sc s.bl.length = true) (hl : b.sc s.bl.length = true) (hg : qZw ρ β q b (some o))
  (hw : w'.heap = w.heap.push o) (h1 : w'.os = w.os) (h2 : w'.tape = w.tape) (h3 : w'.output = w.output) :
  Sat ρ (bnew β s.bl.length w.heap.size q) (s.pushB b) w' ∧ Ext s (s.pushB b) β (bnew β s.bl.length w.heap.size q) w w' := by
 have hold : ∀ b, b < w.heap.size → w'.heap[b]? = w.heap[b]? := by
  intro b hb
  rw [hw, Array.getElem?_push, if_neg (by omega)]
 have hs2 : Sat ρ β s w' := hs.other (fun i hi => hold _ (hs.lt hi)) (fun k a i x ha hi => hold _ (hs.roLt ha hi))
 have hgg : w'.heap[w.heap.size]? = some o := by rw [hw]; simp
 have hag : ∀ j, j < s.bl.length → bnew β s.bl.length w.heap.size q j = β j := fun j hj => by unfold bnew; rw [if_neg (by omega)]
 refine ⟨hs2.pushB hsc hl (by rw [hgg]; exact hg) (fun _ i hi he => by have := hs.lt hi; omega) (fun _ k a i x ha hi he => by have := hs.roLt ha hi; omega), ?_⟩
 refine ⟨hag, fun j hj hl => ?_, fun j hj hl => ?_, by rw [hw]; simp, fun b hb _ => hold b hb, by simp [St.pushB], h1, h2, h3⟩
 ·rcases qQo hl with hl | ⟨rfl, _⟩
  ·exact qXz (hag j hj) hl
  ·omega
 ·rcases qQo hl with hl | ⟨rfl, _⟩
  ·have := qQt hl; omega
  ·exact .inl (by simp [bnew])
def capM (n : E) : Option E := match n with
 | .c _ => some n
 | _ => none
def makeT (cx : Cx) (cks : List CK) (t : TypeId) (l c : SV) (s : St) : R :=
 match cx.und t, l, c with
 | some (.slice e), .int _ n, .int _ n' => (match cx.inf e with
  | some i => (match i.zero with
   | some zv => (match (toS zv).cells with
    | some zs =>
     if n.beq n' && zeroPL cks zs && (cks.length == i.size) && decide (0 < i.size) && decide (i.bytes ≤ 1000000) && s.sc s.bl.length then
      obl s (leE cx (.c 0) n) fun s => obl s (leE cx n (.c 1000000)) fun s => ret (s.pushB (.arr cks e (.c 0) n)) (.sl (.own s.bl.length) cks.length (.c 0) n (capM n))
     else .bad 260
    | none => .bad 261)
   | none => .bad 262)
  | none => .bad 263)
 | _, _, _ => .bad 264
section
variable {cx : Cx} {ρ : Env} (hρ : EnvOk cx ρ) {β : Bt} {s s' : St} {w : World}
include hρ
theorem makeT_ok {cks : List CK} {t : TypeId} {l c v : SV} (hs : Sat ρ β s w) (h : (makeT cx cks t l c s).sel ρ = some (v, s')) :
  ∃ β' w', (Instr.makeSlice t (l.den ρ β) (c.den ρ β)).run cx.P w = .ok (v.den ρ β') w' ∧ Sat ρ β' s' w' ∧ Ext s s' β β' w w' := by
 unfold makeT at h
 split at h
 case h_2 => cases h
 rename_i e kl n kc n' hu
 split at h
 case h_2 => cases h
 rename_i i hi
 split at h
 case h_2 => cases h
 rename_i zv hz
 split at h
 case h_2 => cases h
 rename_i zs hzs
 split at h
 case isFalse => cases h
 rename_i hc
 simp only [Bool.and_eq_true, decide_eq_true_eq, beq_iff_eq] at hc
 obtain ⟨⟨⟨⟨⟨hn, hzp⟩, hck⟩, hsz⟩, hby⟩, hsc⟩ := hc
 have hn := E.eq_of_beq hn
 subst hn
 obtain ⟨s1, e1, hs1, h1, hA⟩ := qQk hs h
 obtain ⟨s2, e2, hs2, h2, hB⟩ := qQk hs1 hA
 cases hB
 have g1 := qQw hρ h1
 have g2 := qQw hρ h2
 simp only [E.ev] at g1 g2
 have e12 : s2.bl = s.bl := e2.trans e1
 have hr := run_make (P := cx.P) w t e i zv (cx.undOk _ _ hu) (cx.infOk _ _ hi) hz kl kc (n.ev ρ) (n.ev ρ) g1 (Int.le_refl _) (by
  have : (i.bytes : Int) * n.ev ρ ≤ 1000000 * 1000000 := Int.mul_le_mul (by omega) g2 g1 (by omega)
  omega) (by omega)
 have hzc : zv.cells = (qQc cks 0).toArray := by
  have := (SV.cells_den hρ β hzs).1
  rw [toS_den] at this
  rw [this, zeroPL_den 0 hzp, elemV_zero]
 have hcells : madeCells zv.cells ((n.ev ρ).toNat * i.size) = (rowV cks 0 (n.ev ρ).toNat ++ []).toArray := by
  rw [List.append_nil]
  apply Array.ext'
  apply List.ext_getElem?
  intro r
  have hlen : (rowV cks 0 (n.ev ρ).toNat).length = (n.ev ρ).toNat * i.size := by rw [qQi, hck]
  by_cases hr : r < (n.ev ρ).toNat * i.size
  ·have hk1 : r / i.size < (n.ev ρ).toNat := Nat.div_lt_of_lt_mul (by rw [Nat.mul_comm]; exact hr)
   have hr1 : r % i.size < i.size := Nat.mod_lt _ hsz
   have hii : r = r / i.size * cks.length + r % i.size := by rw [hck, Nat.mul_comm]; exact (Nat.div_add_mod _ _).symm
   have hrow := qKw cks 0 (n := (n.ev ρ).toNat) (k := r / i.size) (r := r % i.size) hk1 (by omega)
   rw [← hii, rdZ_nil] at hrow
   show _ = (rowV cks 0 (n.ev ρ).toNat)[r]?
   rw [hrow]
   have hsz2 : zv.cells.size = i.size := by rw [hzc]; simp [qQd, hck]
   simp only [madeCells, Array.toList_map, Array.toList_range, List.getElem?_map, List.getElem?_range hr, Option.map_some, hsz2]
   rw [hzc]
   have hlt : r % i.size < (qQc cks 0).length := by rw [qQd, hck]; exact hr1
   rw [List.getElem?_eq_getElem hlt]
   simp [hlt]
  ·have h1 : (madeCells zv.cells ((n.ev ρ).toNat * i.size)).toList.length ≤ r := by simp [size_madeCells]; omega
   rw [List.getElem?_eq_none h1]
   show none = (rowV cks 0 (n.ev ρ).toNat)[r]?
   rw [List.getElem?_eq_none (by rw [hlen]; omega)]
 obtain ⟨l1, l2⟩ := hs2.laidW (w' := w.alloc (.cells (madeCells zv.cells ((n.ev ρ).toNat * i.size)) e)) (b := .arr cks e (.c 0) n) (q := (n.ev ρ).toNat + 1) (sc_bl e12 (by rw [e12]; exact hsc)) rfl (by
  refine .inr ⟨[], by omega, ⟨_, .inl rfl, by rw [hcells]; rfl⟩, by simp [qQi], ?_⟩
  unfold maxLen; omega) rfl rfl rfl rfl
 refine ⟨_, _, ?_, l1, (qJd e12 β w).trans l2⟩
 simp only [SV.den, hr, bnew, if_true, E.ev]
 rw [if_neg (by omega)]
 unfold capM
 cases n <;> simp [E.ev, qKy]
end
theorem Sat.recode {ρ : Env} {β : Bt} {s : St} {w : World} (hs : Sat ρ β s w) {j : Nat} {cks : List CK} {e : TypeId} {q n q' : E} (hj : s.bl[j]? = some (.arr cks e q n))
  (h : rowV cks (q'.ev ρ) (n.ev ρ).toNat = rowV cks (q.ev ρ) (n.ev ρ).toNat) : Sat ρ β { s with bl := s.bl.set j (.arr cks e q' n) } w ∧ Ext s { s with bl := s.bl.set j (.arr cks e q' n) } β β w w := by
 have hls : ∀ i, live β { s with bl := s.bl.set j (.arr cks e q' n) } i ↔ live β s i := live_set hj rfl
 have hx : Ext s { s with bl := s.bl.set j (.arr cks e q' n) } β β w w :=
  ⟨fun _ _ => rfl, fun i _ hl => (hls i).1 hl, fun i hi hl => absurd (qQt ((hls i).1 hl)) (by omega), Nat.le_refl _, fun _ _ _ => rfl, by simp, rfl, rfl, rfl⟩
 refine hs.mk' hx ?_ (fun a b ha hb => hs.inj a b ((hls a).1 ha) ((hls b).1 hb)) hs.kn
 intro i b hi
 by_cases hij : j = i
 ·subst hij
  have hlt := (List.getElem?_eq_some_iff.1 hj).1
  simp [hlt] at hi
  subst hi
  have := hs.blk j _ hj
  simp only [qZw] at this ⊢
  rw [h]; exact this
 ·rw [List.getElem?_set_ne hij] at hi
  exact hs.blk i b hi
def copyQ (m n q d soff : E) : E := if m.beq n then dropE d soff else .f 16 (dropE d soff) m (dropE q m)
def copyM (cx : Cx) (slen len : E) : E := if slen.beq len then len else E.b' cx .min .i64 slen len
def copy0T (cx : Cx) (ats : Array TypeId) (x y : SV) (s : St) : R :=
 match ats.toList, x, y with
 | [t, _], .sl (.own j) z off len _, .sl b z' soff slen _ =>
  (match cx.und t, s.bl[j]?, qKv cx s b with
  | some (.slice el), some (.arr cks e q n), some (cks', d, sn) =>
   if szT cx el = some 1 && isZero off && decide (cks' = cks) && (cks.length == 1) && lo0 (soff.iv cx) && z == 1 && z' == 1 then
    obl s (leE cx (.c 0) len) fun s => obl s (leE cx (.c 0) slen) fun s => obl s (leE cx len n) fun s => obl s (leE cx (addE soff slen) sn) fun s =>
     .leaf (.int .i64 (copyM cx slen len), { s with bl := s.bl.set j (.arr cks e (copyQ (copyM cx slen len) n q d soff) n) })
   else .bad 270
  | _, _, _ => .bad 271)
 | _, _, _ => .bad 272
section
variable {cx : Cx} {ρ : Env} (hρ : EnvOk cx ρ) {β : Bt} {s s' : St} {w : World}
include hρ
theorem copy0T_ok {ats : Array TypeId} {ty : TypeId} {x y v : SV} (hs : Sat ρ β s w) (h : (copy0T cx ats x y s).sel ρ = some (v, s')) :
  ∃ w', (Builtin.copy_ ats ty #[x.den ρ β, y.den ρ β]).run cx.P w = .ok (v.den ρ β) w' ∧ Sat ρ β s' w' ∧ Ext s s' β β w w' := by
 unfold copy0T at h
 split at h
 case h_2 => cases h
 rename_i t t' j z off len cap b z' soff slen scap hats
 split at h
 case h_2 => cases h
 rename_i el cks e q n cks' d sn hu hj hrow
 split at h
 case isFalse => cases h
 rename_i hc
 simp only [Bool.and_eq_true, decide_eq_true_eq, beq_iff_eq] at hc
 obtain ⟨⟨⟨⟨⟨⟨hsz, hoff⟩, rfl⟩, hck⟩, hsoff⟩, rfl⟩, rfl⟩ := hc
 have hoff := qKj hoff
 subst hoff
 obtain ⟨s1, e1, hs1, h1, hA⟩ := qQk hs h
 obtain ⟨s2, e2, hs2, h2, hB⟩ := qQk hs1 hA
 obtain ⟨s3, e3, hs3, h3, hC⟩ := qQk hs2 hB
 obtain ⟨s4, e4, hs4, h4, hD⟩ := qQk hs3 hC
 clear h hA hB hC
 have g1 := qQw hρ h1
 have g2 := qQw hρ h2
 have g3 := qQw hρ h3
 have g4 := qQw hρ h4
 have g0 := lo0_ok hsoff (E.iv_ok hρ soff)
 rw [qJx] at g4
 simp only [E.ev] at g1 g2
 have e14 : s4.bl = s.bl := e4.trans (e3.trans (e2.trans e1))
 have hats' : ats = #[t, t'] := by apply Array.ext'; simpa using hats
 subst hats'
 have hm : (copyM cx slen len).ev ρ = if slen.ev ρ < len.ev ρ then slen.ev ρ else len.ev ρ := by
  unfold copyM
  split
  ·rename_i hb; have := E.eq_of_beq hb; subst this; simp
  ·rw [E.b'_ev hρ]; simp only [BO.ev]; split <;> split <;> omega
 generalize copyM cx slen len = m at hm hD
 generalize hq' : copyQ m n q d soff = q' at hD
 simp only [T.sel, Option.some.injEq, Prod.mk.injEq] at hD
 obtain ⟨rfl, rfl⟩ := hD
 have hm0 : 0 ≤ m.ev ρ := by rw [hm]; split <;> omega
 have hmM : (m.ev ρ).toNat = Nat.min (slen.ev ρ).toNat (len.ev ρ).toNat := by
  rw [hm]
  show _ = min _ _
  split <;> omega
 have hmn : (m.ev ρ).toNat ≤ (n.ev ρ).toNat := by rw [hm]; split <;> omega
 -- the new content
 have hrd : ∀ i : Nat, i < (n.ev ρ).toNat → rdZ (q'.ev ρ) i = if i < (m.ev ρ).toNat then rdZ (d.ev ρ) (((soff.ev ρ).toNat + i : Nat) : Int) else rdZ (q.ev ρ) i := by
  intro i hi
  rw [← hq']
  unfold copyQ
  split
  ·rename_i hb
   have := E.eq_of_beq hb
   rw [dropE_ev hρ, if_pos (by rw [this]; exact hi)]
  ·have : ((E.f 16 (dropE d soff) m (dropE q m)).ev ρ) = appZ ((dropE d soff).ev ρ) (m.ev ρ) ((dropE q m).ev ρ) := by
    simp only [E.ev, qZu hρ (n := 16) (by omega) (by omega)]; rfl
   rw [this, rdZ_app, Int.toNat_natCast]
   split
   ·rw [dropE_ev hρ]
   ·rw [dropE_ev hρ]; congr 2; omega
 have hj4 : s4.bl[j]? = some (.arr cks' e q n) := by rw [e14]; exact hj
 have hsz1 : (cx.P.info? el).map (·.size) = some 1 := by
  obtain ⟨i, hi0, hi1⟩ := szT_info hsz
  rw [cx.infOk _ _ hi0]; simp [hi1]
 have hgo : ∀ k : Nat, goInt k = .int .i64 (k : Int) := fun k => rfl
 rcases Nat.eq_zero_or_pos (m.ev ρ).toNat with hM | hM
 ·have hrow0 : rowV cks' (q'.ev ρ) (n.ev ρ).toNat = rowV cks' (q.ev ρ) (n.ev ρ).toNat := by
   unfold rowV
   refine qZv _ _ _ fun k hk => ?_
   simp only [Nat.zero_add]
   rw [hrd k hk, if_neg (by omega)]
  obtain ⟨r1, r2⟩ := hs4.recode hj4 hrow0
  refine ⟨w, ?_, r1, (qJd e14 β w).trans r2⟩
  rw [qXk, qXk, run_copy_none (P := cx.P) w t t' ty el _ _ _ _ _ _ (cx.undOk _ _ hu) hsz1 (by rw [← hmM]; exact hM)]
  simp only [SV.den]
  rw [show m.ev ρ = 0 by omega]; rfl
 ·rcases hs4.blk j _ hj4 with ⟨h0, hn0⟩ | ⟨tl, hq, ⟨mk, hmk, hheap⟩, hlen, hmax⟩
  ·omega
  ·obtain ⟨a, ha, _⟩ := qJr hρ hs hrow (i := (soff.ev ρ).toNat) (by
    have hsl : 0 < slen.ev ρ := by
     rw [hm] at hM
     split at hM <;> omega
    omega)
   have hfirst : ∀ (c : Int), rowV cks' c (m.ev ρ).toNat = tabL (fun i => qQc cks' (rdZ c i)) 0 (m.ev ρ).toNat := fun c => rfl
   have hcsl : (tabL (fun i => qQc cks' (rdZ (q'.ev ρ) i)) 0 (m.ev ρ).toNat).length = (m.ev ρ).toNat := by rw [qZe (fun _ => qQd _ _), hck, Nat.mul_one]
   have hsrc : ∀ k u, (tabL (fun i => qQc cks' (rdZ (q'.ev ρ) i)) 0 (m.ev ρ).toNat)[k]? = some u → w.cell? ((a.add ((soff.ev ρ).toNat * 1)).add k) = some u := by
    intro k u hk
    have hkm : k < (m.ev ρ).toNat := by rw [← hcsl]; exact (List.getElem?_eq_some_iff.1 hk).1
    have hg := tabL_get (f := fun i => qQc cks' (rdZ (q'.ev ρ) i)) (z := 1) (fun _ => by rw [qQd, hck]) (m.ev ρ).toNat 0 k 0 hkm (by omega)
    simp only [Nat.mul_one, Nat.add_zero, Nat.zero_add] at hg
    rw [hg, hrd k (by omega), if_pos hkm] at hk
    obtain ⟨a2, ha2, hcell⟩ := qJr hρ hs hrow (i := (soff.ev ρ).toNat + k) (by
     rw [hm] at hkm
     split at hkm <;> omega)
    rw [ha] at ha2
    cases ha2
    have := hcell 0 u hk
    rw [hck, Nat.mul_one, Nat.add_zero] at this
    rw [qJj, Nat.mul_one]
    exact this
   have hM' : (m.ev ρ).toNat = (m.ev ρ).toNat := rfl
   have hr := run_copy_rowM (P := cx.P) w t t' ty el (β j).1 0 (len.ev ρ).toNat (slCap ρ β (.own j) (.c 0) cap) (a.add ((soff.ev ρ).toNat * 1)) (slen.ev ρ).toNat (slCap ρ β b soff scap) _ e (tabL (fun i => qQc cks' (rdZ (q'.ev ρ) i)) 0 (m.ev ρ).toNat)
    (cx.undOk _ _ hu) hsz1 hheap (mk_of hlen hmk) (by rw [hcsl, hmM]) hsrc (by
     rw [hcsl]
     simp only [List.size_toArray, List.length_append, qQi, hck, Nat.mul_one]
     omega) (by
     intro u hu
     have : ∀ (n i0 : Nat), u ∈ tabL (fun i => qQc cks' (rdZ (q'.ev ρ) i)) i0 n → u.oneCell' = true := by
      intro n
      induction n with
      | zero => intro i0 h; simp [tabL] at h
      | succ n ih =>
       intro i0 h
       simp only [tabL, List.mem_append] at h
       rcases h with h | h
       ·exact oneV_elemV _ _ u h
       ·exact ih _ h
     exact this _ 0 hu)
   have hcur : (rowV cks' (q.ev ρ) (n.ev ρ).toNat ++ tl).take 0 ++ tabL (fun i => qQc cks' (rdZ (q'.ev ρ) i)) 0 (m.ev ρ).toNat ++ (rowV cks' (q.ev ρ) (n.ev ρ).toNat ++ tl).drop (0 + (tabL (fun i => qQc cks' (rdZ (q'.ev ρ) i)) 0 (m.ev ρ).toNat).length) = rowV cks' (q'.ev ρ) (n.ev ρ).toNat ++ tl := by
    rw [hcsl, List.take_zero, List.nil_append, Nat.zero_add, List.drop_append_of_le_length (by rw [qQi, hck, Nat.mul_one]; exact hmn), ← List.append_assoc]
    congr 1
    unfold rowV
    obtain ⟨d', hd'⟩ : ∃ d', (n.ev ρ).toNat = (m.ev ρ).toNat + d' := ⟨(n.ev ρ).toNat - (m.ev ρ).toNat, by omega⟩
    rw [hd', qZk, qZk]
    congr 1
    rw [List.drop_append, List.drop_of_length_le (by rw [qZe (fun _ => qQd _ _), hck, Nat.mul_one]; exact Nat.le_refl _), qZe (fun _ => qQd _ _), hck, Nat.mul_one, Nat.sub_self, List.drop_zero, List.nil_append]
    refine qZv _ _ _ fun k hk => ?_
    show qQc cks' (rdZ (q.ev ρ) _) = qQc cks' (rdZ (q'.ev ρ) _)
    rw [hrd _ (by omega), if_neg (by omega)]
   obtain ⟨r1, r2⟩ := hs4.reset (b' := .arr cks' e q' n) (cur := (rowV cks' (q'.ev ρ) (n.ev ρ).toNat ++ tl).toArray) hj4 (by simp [SBlk.occ, hq]) (by simp [SBlk.occ, hq]) hheap
    (.inr ⟨tl, hq, ⟨mk, hmk, rfl⟩, by simpa [qQi] using hlen, hmax⟩)
   refine ⟨_, ?_, r1, (qJd e14 β w).trans r2⟩
   have hso : qKf ρ β b 1 soff scap = (soff.ev ρ).toNat * 1 := by rw [← hck]; exact slOff_in hs hrow (by rw [hm] at hM; split at hM <;> omega) scap
   rw [qXk, qXk, ha, slOff_zero, hso]
   simp only [qJc]
   rw [if_neg (by omega)]
   simp only [Option.map_some, qQu, Nat.add_zero]
   rw [hr]
   have hcur' : (rowV cks' (q.ev ρ) (n.ev ρ).toNat ++ tl).toArray.toList = rowV cks' (q.ev ρ) (n.ev ρ).toNat ++ tl := rfl
   rw [hcur', hcur, hcsl]
   simp only [SV.den, goInt]
   rw [Int.toNat_of_nonneg hm0]
end
theorem tabL_oneC {f : Nat → List Value} (h : ∀ i, ∀ u ∈ f i, u.oneCell' = true) : ∀ (n i0 : Nat), ∀ u ∈ tabL f i0 n, u.oneCell' = true
 | 0, i0, u, hu => by simp [tabL] at hu
 | n + 1, i0, u, hu => by
  simp only [tabL, List.mem_append] at hu
  rcases hu with hu | hu
  ·exact h _ u hu
  ·exact tabL_oneC h n (i0 + 1) u hu
def copyGQ (m off n : E) (src : Src) (q : E) : E := .f 16 (src.put q off) (addE off m) (dropE q (addE off m))
def copyGT (cx : Cx) (ats : Array TypeId) (x y : SV) (s : St) : R :=
 match ats.toList, x with
 | [t, _], .sl (.own j) z off len _ =>
  (match cx.und t, s.bl[j]? with
  | some (.slice el), some (.arr cks e q n) =>
   (match srcOf cx cks y s with
   | some src => if szT cx el = some 1 && (cks.length == 1) && z == 1 then
     srcOb cx y s fun s => obl s (leE cx (.c 0) off) fun s => obl s (leE cx (.c 0) len) fun s => obl s (leE cx (addE off len) n) fun s =>
      .leaf (.int .i64 (copyM cx src.n len), { s with bl := s.bl.set j (.arr cks e (copyGQ (copyM cx src.n len) off n src q) n) })
    else .bad 273
   | none => .bad 274)
  | _, _ => .bad 275)
 | _, _ => .bad 276
def copyT (cx : Cx) (ats : Array TypeId) (x y : SV) (s : St) : R :=
 match x, y with
 | .sl (.own _) _ off _ _, .sl _ _ _ _ _ => if isZero off then copy0T cx ats x y s else copyGT cx ats x y s
 | _, _ => copyGT cx ats x y s
section
variable {cx : Cx} {ρ : Env} (hρ : EnvOk cx ρ) {β : Bt} {s s' : St} {w : World}
include hρ
theorem copyGT_ok {ats : Array TypeId} {ty : TypeId} {x y v : SV} (hs : Sat ρ β s w) (h : (copyGT cx ats x y s).sel ρ = some (v, s')) :
  ∃ w', (Builtin.copy_ ats ty #[x.den ρ β, y.den ρ β]).run cx.P w = .ok (v.den ρ β) w' ∧ Sat ρ β s' w' ∧ Ext s s' β β w w' := by
 unfold copyGT at h
 split at h
 case h_2 => cases h
 rename_i t t' j z off len cap hats
 split at h
 case h_2 => cases h
 rename_i el cks e q n hu hj
 split at h
 case h_2 => cases h
 rename_i src hsrc
 split at h
 case isFalse => cases h
 rename_i hc
 simp only [Bool.and_eq_true, decide_eq_true_eq, beq_iff_eq] at hc
 obtain ⟨⟨hsz, hck⟩, rfl⟩ := hc
 obtain ⟨s1, e1, hs1, hA, hm0, a, c, hy, hya⟩ := srcOf_ok hρ hs (by omega) hsrc h
 obtain ⟨s2, e2, hs2, h1, hB⟩ := qQk hs1 hA
 obtain ⟨s3, e3, hs3, h2, hC⟩ := qQk hs2 hB
 obtain ⟨s4, e4, hs4, h3, hD⟩ := qQk hs3 hC
 clear h hA hB hC
 have g1 := qQw hρ h1
 have g2 := qQw hρ h2
 have g3 := qQw hρ h3
 rw [qJx] at g3
 simp only [E.ev] at g1 g2
 have e14 : s4.bl = s.bl := e4.trans (e3.trans (e2.trans e1))
 have hats' : ats = #[t, t'] := by apply Array.ext'; simpa using hats
 subst hats'
 have hm : (copyM cx src.n len).ev ρ = if src.n.ev ρ < len.ev ρ then src.n.ev ρ else len.ev ρ := by
  unfold copyM
  split
  ·rename_i hb; have := E.eq_of_beq hb; rw [this]; simp
  ·rw [E.b'_ev hρ]; simp only [BO.ev]; split <;> split <;> omega
 generalize copyM cx src.n len = m at hm hD
 generalize hq' : copyGQ m off n src q = q' at hD
 simp only [T.sel, Option.some.injEq, Prod.mk.injEq] at hD
 obtain ⟨rfl, rfl⟩ := hD
 have hm00 : 0 ≤ m.ev ρ := by rw [hm]; split <;> omega
 have hmM : (m.ev ρ).toNat = Nat.min (src.n.ev ρ).toNat (len.ev ρ).toNat := by
  rw [hm]
  show _ = min _ _
  split <;> omega
 have hml : m.ev ρ ≤ len.ev ρ := by rw [hm]; split <;> omega
 have hms : m.ev ρ ≤ src.n.ev ρ := by rw [hm]; split <;> omega
 have hmn : (off.ev ρ).toNat + (m.ev ρ).toNat ≤ (n.ev ρ).toNat := by omega
 have hto : (off.ev ρ + m.ev ρ).toNat = (off.ev ρ).toNat + (m.ev ρ).toNat := by omega
 have hrd : ∀ i : Nat, i < (n.ev ρ).toNat → rdZ (q'.ev ρ) i = if i < (off.ev ρ).toNat then rdZ (q.ev ρ) i else if i < (off.ev ρ).toNat + (m.ev ρ).toNat then src.at ρ (i - (off.ev ρ).toNat) else rdZ (q.ev ρ) i := by
  intro i hi
  rw [← hq']
  have : (copyGQ m off n src q).ev ρ = appZ ((src.put q off).ev ρ) ((addE off m).ev ρ) ((dropE q (addE off m)).ev ρ) := by
   unfold copyGQ
   simp only [E.ev, qZu hρ (n := 16) (by omega) (by omega)]; rfl
  rw [this, rdZ_app, Int.toNat_natCast, qJx, hto]
  by_cases h1 : i < (off.ev ρ).toNat + (m.ev ρ).toNat
  ·rw [if_pos h1, Src.put_ev hρ src q off g1 i (by omega)]
   split <;> rfl
  ·rw [if_neg h1, dropE_ev hρ, if_neg (by omega), if_neg h1, qJx, hto]
   congr 2; omega
 have hj4 : s4.bl[j]? = some (.arr cks e q n) := by rw [e14]; exact hj
 have hsz1 : (cx.P.info? el).map (·.size) = some 1 := by
  obtain ⟨i, hi0, hi1⟩ := szT_info hsz
  rw [cx.infOk _ _ hi0]; simp [hi1]
 rcases Nat.eq_zero_or_pos (m.ev ρ).toNat with hM | hM
 ·have hrow0 : rowV cks (q'.ev ρ) (n.ev ρ).toNat = rowV cks (q.ev ρ) (n.ev ρ).toNat := by
   unfold rowV
   refine qZv _ _ _ fun k hk => ?_
   simp only [Nat.zero_add]
   rw [hrd k hk]
   split
   ·rfl
   ·rw [if_neg (by omega)]
  obtain ⟨r1, r2⟩ := hs4.recode hj4 hrow0
  refine ⟨w, ?_, r1, (qJd e14 β w).trans r2⟩
  rw [qXk, hy, run_copy_none (P := cx.P) w t t' ty el _ _ _ _ _ _ (cx.undOk _ _ hu) hsz1 (by rw [← hmM]; exact hM)]
  simp only [SV.den]
  rw [show m.ev ρ = 0 by omega]; rfl
 ·rcases hs4.blk j _ hj4 with ⟨h0, hn0⟩ | ⟨tl, hq, ⟨mk, hmk, hheap⟩, hlen, hmax⟩
  ·omega
  ·obtain ⟨a', rfl, hcell⟩ := hya (by omega)
   have hso : qKf ρ β (.own j) 1 off cap = (off.ev ρ).toNat * 1 := by
    have := slOff_in hs (b := .own j) (cks := cks) (q := q) (n := n) (cx := cx) (by simp [qKv, hj]) (off := off) (by omega) cap
    rw [hck] at this
    exact this
   generalize hcs : tabL (fun i => qQc cks (src.at ρ i)) 0 (m.ev ρ).toNat = cs
   have hcsl : cs.length = (m.ev ρ).toNat := by rw [← hcs, qZe (fun _ => qQd _ _), hck, Nat.mul_one]
   have hsrc : ∀ k u, cs[k]? = some u → w.cell? (a'.add k) = some u := by
    intro k u hk
    have hkm : k < (m.ev ρ).toNat := by rw [← hcsl]; exact (List.getElem?_eq_some_iff.1 hk).1
    refine hcell k u ?_
    rw [← hcs] at hk
    have hg := fun N (h : k < N) => tabL_get (f := fun i => qQc cks (src.at ρ i)) (z := 1) (fun _ => by rw [qQd, hck]) N 0 k 0 h (by omega)
    simp only [Nat.mul_one, Nat.add_zero, Nat.zero_add] at hg
    rw [hg _ hkm] at hk
    rw [hg _ (by omega)]
    exact hk
   have hr := run_copy_rowM (P := cx.P) w t t' ty el (β j).1 (off.ev ρ).toNat (len.ev ρ).toNat (slCap ρ β (.own j) off cap) a' (src.n.ev ρ).toNat c _ e cs
    (cx.undOk _ _ hu) hsz1 hheap (mk_of hlen hmk) (by rw [hcsl, hmM]) hsrc (by
     rw [hcsl]
     simp only [List.size_toArray, List.length_append, qQi, hck, Nat.mul_one]
     omega) (by rw [← hcs]; exact tabL_oneC (fun i u hu => oneV_elemV _ _ u hu) _ _)
   have hcur : (rowV cks (q.ev ρ) (n.ev ρ).toNat ++ tl).take (off.ev ρ).toNat ++ cs ++ (rowV cks (q.ev ρ) (n.ev ρ).toNat ++ tl).drop ((off.ev ρ).toNat + cs.length) = rowV cks (q'.ev ρ) (n.ev ρ).toNat ++ tl := by
    rw [hcsl, List.take_append_of_le_length (by rw [qQi, hck]; omega), List.drop_append_of_le_length (by rw [qQi, hck]; omega), ← List.append_assoc]
    congr 1
    obtain ⟨d', hd'⟩ : ∃ d', (n.ev ρ).toNat = (off.ev ρ).toNat + ((m.ev ρ).toNat + d') := ⟨(n.ev ρ).toNat - (off.ev ρ).toNat - (m.ev ρ).toNat, by omega⟩
    unfold rowV
    rw [hd', qZk, qZk, qZk, qZk, List.take_append_of_le_length (by rw [qZe (fun _ => qQd _ _), hck]; omega), List.take_of_length_le (by rw [qZe (fun _ => qQd _ _), hck]; omega), ← List.append_assoc (tabL (fun i => qQc cks (rdZ (q.ev ρ) i)) 0 (off.ev ρ).toNat)]
    rw [List.drop_append, List.drop_of_length_le (by rw [List.length_append, qZe (fun _ => qQd _ _), qZe (fun _ => qQd _ _), hck]; omega), List.length_append, qZe (fun _ => qQd _ _), qZe (fun _ => qQd _ _), hck, Nat.mul_one, Nat.mul_one, Nat.sub_self, List.drop_zero, List.nil_append, List.append_assoc]
    congr 1
    ·refine qZv _ _ _ fun k hk => ?_
     simp only [Nat.zero_add]
     rw [hrd k (by omega), if_pos hk]
    ·congr 1
     ·rw [← hcs]
      refine qZv _ _ _ fun k hk => ?_
      simp only [Nat.zero_add]
      rw [hrd _ (by omega), if_neg (by omega), if_pos (by omega)]
      congr 2; omega
     ·refine qZv _ _ _ fun k hk => ?_
      rw [hrd _ (by omega), if_neg (by omega), if_neg (by omega)]
   obtain ⟨r1, r2⟩ := hs4.reset (b' := .arr cks e q' n) (cur := (rowV cks (q'.ev ρ) (n.ev ρ).toNat ++ tl).toArray) hj4 (by simp [SBlk.occ, hq]) (by simp [SBlk.occ, hq]) hheap
    (.inr ⟨tl, hq, ⟨mk, hmk, rfl⟩, by simpa [qQi] using hlen, hmax⟩)
   refine ⟨_, ?_, r1, (qJd e14 β w).trans r2⟩
   rw [qXk, hy, hso]
   simp only [qJc]
   rw [if_neg (by omega)]
   simp only [Option.map_some, qQu, Nat.zero_add, Nat.mul_one]
   rw [hr]
   have hcur' : (rowV cks (q.ev ρ) (n.ev ρ).toNat ++ tl).toArray.toList = rowV cks (q.ev ρ) (n.ev ρ).toNat ++ tl := rfl
   rw [hcur', hcur, hcsl]
   simp only [SV.den, goInt]
   rw [Int.toNat_of_nonneg hm00]
theorem copyT_ok {ats : Array TypeId} {ty : TypeId} {x y v : SV} (hs : Sat ρ β s w) (h : (copyT cx ats x y s).sel ρ = some (v, s')) :
  ∃ w', (Builtin.copy_ ats ty #[x.den ρ β, y.den ρ β]).run cx.P w = .ok (v.den ρ β) w' ∧ Sat ρ β s' w' ∧ Ext s s' β β w w' := by
 unfold copyT at h
 split at h
 ·split at h
  ·exact copy0T_ok hρ hs h
  ·exact copyGT_ok hρ hs h
 ·exact copyGT_ok hρ hs h
end
def indexT (cx : Cx) (t : TypeId) (x ix : SV) (s : St) : R :=
 match cx.und t, x, ix with
 | some .string, .str e, .int _ i => obl s (leE cx (.c 0) i) fun s => obl s (ltE cx i (.f 21 e (.c 0) (.c 0))) fun s => ret s (.int .u8 (.f 22 e i (.c 0)))
 | some (.array len el), .agg l, .int _ i =>
  (match constE i with
  | some _ => (match indexS cx t x ix with
   | some v => ret s v
   | none => .bad 280)
  | none => (match gather cx l with
   | some (k, q) => if szT cx el = some 1 && decide (isAggT cx el = some false) && l.length == len then
     obl s (leE cx (.c 0) i) fun s => obl s (ltE cx i (.c len)) fun s => ret s (ckS cx k (E.rdA q i)) else .bad 281
   | none => .bad 282))
 | _, _, _ => (match indexS cx t x ix with
  | some v => ret s v
  | none => .bad 283)
section
variable {cx : Cx} {ρ : Env} (hρ : EnvOk cx ρ) {β : Bt} {s s' : St} {w : World}
include hρ
theorem indexT_ok (hs : Sat ρ β s w) {t : TypeId} {X I v : SV} (h : (indexT cx t X I s).sel ρ = some (v, s')) : LookOk cx ρ β s s' w (Instr.index t (X.den ρ β) (I.den ρ β)) v := by
 unfold indexT at h
 split at h
 ·rename_i e k i hu
  obtain ⟨s1, e1, hs1, h1, hA⟩ := qQk hs h
  obtain ⟨s2, e2, hs2, h2, hB⟩ := qQk hs1 hA
  cases hB
  have g1 := qQw hρ h1
  have g2 := qJh hρ h2
  simp only [E.ev, qZu hρ (n := 21) (by omega) (by omega), fL] at g1 g2
  refine ⟨?_, e2.trans e1, hs2⟩
  have hsz := qZb (e.ev ρ)
  have hget := strOf_get (e.ev ρ) (i.ev ρ).toNat (by omega)
  have hget2 : (qQv (e.ev ρ))[(i.ev ρ).toNat]? = some (UInt8.ofNat (qJf (e.ev ρ) (i.ev ρ).toNat).toNat) := by
   have hlt : (i.ev ρ).toNat < (qQv (e.ev ρ)).size := by omega
   rw [← hget, getElem?_pos (qQv (e.ev ρ)) (i.ev ρ).toNat hlt, getElem?_pos (qQv (e.ev ρ)).data (i.ev ρ).toNat hlt]
   rfl
  have hb := sbyteZ_bd (e.ev ρ) (i.ev ρ)
  have hrd : qJf (e.ev ρ) ((i.ev ρ).toNat : Nat) = qJf (e.ev ρ) (i.ev ρ) := by unfold qJf; rw [qKp]
  simp only [SV.den, Instr.index, asIntOf, Sem.run_bind, Sem.run_pure, Result.andThen_ok, qQx hu, g1, if_true, hget2, hrd, E.ev, qZu hρ (n := 22) (by omega) (by omega), fL]
  congr 2
  have : (UInt8.ofNat (qJf (e.ev ρ) (i.ev ρ)).toNat).toNat = (qJf (e.ev ρ) (i.ev ρ)).toNat % 256 := by simp
  rw [this]
  omega
 ·rename_i len el l k i hu
  split at h
  ·split at h
   ·rename_i r hr; cases h; exact ⟨indexS_ok hr, rfl, hs⟩
   ·cases h
  ·split at h
   ·rename_i ck q hg
    split at h
    ·rename_i hc
     simp only [Bool.and_eq_true, decide_eq_true_eq, beq_iff_eq] at hc
     obtain ⟨⟨hz, ha⟩, hl⟩ := hc
     obtain ⟨s1, e1, hs1, h1, hA⟩ := qQk hs h
     obtain ⟨s2, e2, hs2, h2, hB⟩ := qQk hs1 hA
     cases hB
     have g1 := qQw hρ h1
     have g2 := qJh hρ h2
     simp only [E.ev] at g1 g2
     refine ⟨?_, e2.trans e1, hs2⟩
     have hi : (i.ev ρ).toNat < l.length := by omega
     have hgv := gather_ok hρ β hg _ hi
     simp only [SV.den, Instr.index, asIntOf, Sem.run_bind, Sem.run_pure, Result.andThen_ok, qQx hu]
     rw [if_pos ⟨g1, g2⟩]
     simp only [Sem.run_bind, qQz hz, Result.andThen_ok, Nat.mul_one]
     rw [qKp] at hgv
     rw [run_part_int ha (by simpa using hgv), ckS_den hρ, E.rdA_ev hρ]
    ·cases h
   ·cases h
 ·split at h
  ·rename_i r hr; cases h; exact ⟨indexS_ok hr, rfl, hs⟩
  ·cases h
end
theorem nt_ne (r : E) (ρ : Env) : ((E.nt' r).ev ρ != 0) = !(r.ev ρ != 0) := by
 rw [E.nt'_ev, qZm]; simp [bne]
def binT (cx : Cx) (op : BinOp) (xt : TypeId) (x y : SV) (s : St) : R :=
 match op, x, y with
 | .eql, .agg l, .agg m => (match cx.und xt with
  | some (.struct _) => (match cx.seq xt, eqS cx 8 xt (.agg l) (.agg m) with
   | true, some r => ret s (.bool r)
   | _, _ => .bad 290)
  | _ => binS cx op xt x y s)
 | .neq, .agg l, .agg m => (match cx.und xt with
  | some (.struct _) => (match cx.seq xt, eqS cx 8 xt (.agg l) (.agg m) with
   | true, some r => ret s (.bool (E.nt' r))
   | _, _ => .bad 290)
  | _ => binS cx op xt x y s)
 | op, x, y => (match cx.und xt, op with
  | some .string, .eql => (match eqS cx 1 xt x y with
   | some r => ret s (.bool r)
   | none => .bad 291)
  | some .string, .neq => (match eqS cx 1 xt x y with
   | some r => ret s (.bool (E.nt' r))
   | none => .bad 291)
  | some .string, .add => (match strE x, strE y with
   | some a, some b => obl s (leE cx (E.b' cx .padd .i64 (.f 21 a (.c 0) (.c 0)) (.f 21 b (.c 0) (.c 0))) (.c 1000000)) fun s => ret s (.str (.f 23 a b (.c 0)))
   | _, _ => .bad 292)
  | some .string, .lss => (match strE x, strE y with
   | some a, some b => ret s (.bool (.f 24 a b (.c 0)))
   | _, _ => .bad 293)
  | _, _ => binS cx op xt x y s)
section
variable {cx : Cx} {ρ : Env} (hρ : EnvOk cx ρ) {β : Bt} {s s' : St} {w : World}
include hρ
theorem eqlT_ok {d : Nat} (hd : d ≤ 10000) {xt : TypeId} {x y : Operand} {X Y : SV} {r : E} (h : eqS cx d xt X Y = some r) (hg : ∀ op, (eqGuard op xt x y (X.den ρ β) (Y.den ρ β)).run cx.P w = .ok () w)
  (hb : binOp .eql xt (X.den ρ β) (Y.den ρ β) = (do let z ← Op.equal xt (X.den ρ β) (Y.den ρ β); pure (Value.bool z)) ∧ binOp .neq xt (X.den ρ β) (Y.den ρ β) = (do let z ← Op.equal xt (X.den ρ β) (Y.den ρ β); pure (Value.bool !z))) :
  qZn cx .eql xt x y X Y ρ β w (.bool r) ∧ qZn cx .neq xt x y X Y ρ β w (.bool (E.nt' r)) := by
 have he := eqS_ok hρ β d xt X Y r 10000 w h hd
 have he' : (Op.equal xt (X.den ρ β) (Y.den ρ β)).run cx.P w = .ok (r.ev ρ != 0) w := he
 constructor <;> unfold qZn <;> simp only [Sem.run_bind, hg, Result.andThen_ok]
 ·rw [hb.1]
  simp only [Sem.run_bind, he', Result.andThen_ok, Sem.run_pure, SV.den]
 ·rw [hb.2]
  simp only [Sem.run_bind, he', Result.andThen_ok, Sem.run_pure, SV.den, nt_ne]
theorem binT_ok {op : BinOp} {xt : TypeId} {x y : Operand} {X Y v : SV} (hs : Sat ρ β s w) (h : (binT cx op xt X Y s).sel ρ = some (v, s')) : qZn cx op xt x y X Y ρ β w v ∧ s'.bl = s.bl ∧ Sat ρ β s' w := by
 have aggs : ∀ {l m : List SV} {fs : Array Field} {r : E}, cx.und xt = some (.struct fs) → cx.seq xt = true → eqS cx 8 xt (.agg l) (.agg m) = some r →
   qZn cx .eql xt x y (.agg l) (.agg m) ρ β w (.bool r) ∧ qZn cx .neq xt x y (.agg l) (.agg m) ρ β w (.bool (E.nt' r)) := by
  intro l m fs r hu hq hr
  refine eqlT_ok hρ (by omega) hr (fun op => ?_) ⟨?_, ?_⟩
  ·simp only [SV.den]; exact run_eqGuard_agg w op xt x y _ _ (cx.seqOk xt hq).1
  ·rfl
  ·rfl
 have strs : ∀ {r : E}, cx.und xt = some .string → eqS cx 1 xt X Y = some r → ∃ a b, X.den ρ β = .string a ∧ Y.den ρ β = .string b := by
  intro r hu hr
  simp only [eqS, hu] at hr
  split at hr
  ·exact ⟨_, _, rfl, rfl⟩
  ·split at hr
   ·rename_i a b ha hb
    exact ⟨_, _, qJm hρ β ha, qJm hρ β hb⟩
   ·cases hr
 have hstr : ∀ {r : E}, cx.und xt = some .string → eqS cx 1 xt X Y = some r → qZn cx .eql xt x y X Y ρ β w (.bool r) ∧ qZn cx .neq xt x y X Y ρ β w (.bool (E.nt' r)) := by
  intro r hu hr
  obtain ⟨a, b, ha, hb⟩ := strs hu hr
  have he := eqS_ok hρ β 1 xt X Y r 10000 w hr (by omega)
  rw [ha, hb, run_equalIn_string w 9999 xt _ _ (cx.undOk _ _ hu)] at he
  simp only [Result.ok.injEq, and_true] at he
  constructor <;> unfold qZn <;> rw [ha, hb]
  ·simp [eqGuard, binOp, Op.stringOp, SV.den, he]
  ·have hh : (a.toList == b.toList) = (!(E.ev ρ r == 0)) := he
   simp only [eqGuard, binOp, Op.stringOp, SV.den, E.nt'_ev, qZm, hh]
   simp
 unfold binT at h
 split at h
 ·split at h
  ·rename_i fs hu
   split at h
   ·rename_i r hq hr
    cases h
    exact ⟨(aggs hu hq hr).1, rfl, hs⟩
   ·cases h
  ·exact binS_ok hρ hs h
 ·split at h
  ·rename_i fs hu
   split at h
   ·rename_i r hq hr
    cases h
    exact ⟨(aggs hu hq hr).2, rfl, hs⟩
   ·cases h
  ·exact binS_ok hρ hs h
 ·split at h
  ·rename_i hu _
   split at h
   ·rename_i r hr
    cases h
    exact ⟨(hstr (by assumption) hr).1, rfl, hs⟩
   ·cases h
  ·split at h
   ·rename_i r hr
    cases h
    exact ⟨(hstr (by assumption) hr).2, rfl, hs⟩
   ·cases h
  ·split at h
   ·rename_i a b ha hb
    obtain ⟨s1, e1, hs1, h1, h2⟩ := qQk hs h
    cases h2
    have g := qQw hρ h1
    rw [E.b'_ev hρ] at g
    simp only [BO.ev, E.ev, qZu hρ (n := 21) (by omega) (by omega)] at g
    have g' : qZt (a.ev ρ) + qZt (b.ev ρ) ≤ 1000000 := g
    have z1 := qZb (a.ev ρ)
    have z2 := qZb (b.ev ρ)
    refine ⟨?_, e1, hs1⟩
    unfold qZn
    rw [qJm hρ β ha, qJm hρ β hb]
    have hn : ¬ ((((qQv (a.ev ρ)).size + (qQv (b.ev ρ)).size : Nat) : Int) > IntKind.i64.max) := by
     have : IntKind.i64.max = 9223372036854775807 := by decide
     omega
    have hv : SV.den ρ β (.str (.f 23 a b (.c 0))) = .string (qQv (a.ev ρ) ++ qQv (b.ev ρ)) := by
     simp only [SV.den, E.ev, qZu hρ (n := 23) (by omega) (by omega)]
     show Value.string (qQv (catZ _ _)) = _
     rw [strOf_cat _ _ (by unfold qKz; omega)]
    simp only [eqGuard, binOp, Op.stringOp, hv, if_neg hn]
    rfl
   ·cases h
  ·split at h
   ·rename_i a b ha hb
    cases h
    refine ⟨?_, rfl, hs⟩
    unfold qZn
    rw [qJm hρ β ha, qJm hρ β hb]
    have hv : SV.den ρ β (.bool (.f 24 a b (.c 0))) = .bool (Op.bytesLess (qQv (a.ev ρ)).toList (qQv (b.ev ρ)).toList) := by
     simp only [SV.den, E.ev, qZu hρ (n := 24) (by omega) (by omega)]
     show Value.bool (ltsZ _ _ != 0) = _
     unfold ltsZ
     cases Op.bytesLess (qQv (a.ev ρ)).toList (qQv (b.ev ρ)).toList <;> rfl
    simp only [eqGuard, binOp, Op.stringOp, hv]
    rfl
   ·cases h
  ·exact binS_ok hρ hs h
end
def isC : Operand → Bool
 | .const _ => true
 | _ => false
def binV (cx : Cx) (op : BinOp) (xt : TypeId) (x y : Operand) (X Y : SV) (s : St) : R :=
 match isC x || isC y, op, X, Y with
 | true, .eql, .lit .nilIface, .lit .nilIface => (match cx.und xt with
  | some (.interface _) => ret s (.bool (.c 1))
  | _ => binT cx op xt X Y s)
 | true, .neq, .lit .nilIface, .lit .nilIface => (match cx.und xt with
  | some (.interface _) => ret s (.bool (.c 0))
  | _ => binT cx op xt X Y s)
 | true, .eql, .mp _, .lit (.map none) => (match cx.und xt with
  | some (.map _ _) => ret s (.bool (.c 0))
  | _ => .bad 286)
 | true, .neq, .mp _, .lit (.map none) => (match cx.und xt with
  | some (.map _ _) => ret s (.bool (.c 1))
  | _ => .bad 286)
 | true, .eql, .lit (.map none), .lit (.map none) => (match cx.und xt with
  | some (.map _ _) => ret s (.bool (.c 1))
  | _ => .bad 286)
 | true, .neq, .lit (.map none), .lit (.map none) => (match cx.und xt with
  | some (.map _ _) => ret s (.bool (.c 0))
  | _ => .bad 286)
 | _, op, X, Y => binT cx op xt X Y s
theorem binV_ok {cx : Cx} {ρ : Env} (hρ : EnvOk cx ρ) {β : Bt} {s s' : St} {w : World} {op : BinOp} {xt : TypeId} {x y : Operand} {X Y v : SV} (hs : Sat ρ β s w) (h : (binV cx op xt x y X Y s).sel ρ = some (v, s')) : qZn cx op xt x y X Y ρ β w v ∧ s'.bl = s.bl ∧ Sat ρ β s' w := by
 have hg : (isC x || isC y) = true → ∀ op, (eqGuard op xt x y .nilIface .nilIface).run cx.P w = .ok () w := by
  intro hc op
  unfold eqGuard
  cases x <;> cases y <;> first | (simp [isC] at hc; done) | (cases op <;> simp)
 have he : ∀ ms, cx.und xt = some (.interface ms) → (Op.equal xt .nilIface .nilIface).run cx.P w = .ok true w := by
  intro ms hu
  have : ∀ d, (Op.equalIn (d + 1) xt .nilIface .nilIface).run cx.P w = .ok true w := fun d => by simp [Op.equalIn, qQx hu]
  exact this 9999
 have hg2 : ∀ op a b, (eqGuard op xt x y (.map a) (.map b)).run cx.P w = .ok () w := by
  intro op a b
  unfold eqGuard
  cases x <;> cases y <;> cases op <;> simp
 have hm : ∀ k e a, cx.und xt = some (.map k e) → (Op.equal xt (.map a) (.map none)).run cx.P w = .ok a.isNone w := by
  intro k e a hu
  have : ∀ d, (Op.equalIn (d + 1) xt (.map a) (.map none)).run cx.P w = .ok a.isNone w := fun d => by cases a <;> simp [Op.equalIn, qQx hu]
  exact this 9999
 unfold binV at h
 split at h
 ·rename_i hc
  split at h
  ·rename_i ms hu
   cases h
   refine ⟨?_, rfl, hs⟩
   unfold qZn
   simp only [SV.den, Sem.run_bind, hg hc, Result.andThen_ok]
   show (do let z ← Op.equal xt .nilIface .nilIface; pure (Value.bool z) : Sem Value).run cx.P w = _
   rw [Sem.run_bind, he ms hu, Result.andThen_ok]; rfl
  ·exact binT_ok hρ hs h
 ·rename_i hc
  split at h
  ·rename_i ms hu
   cases h
   refine ⟨?_, rfl, hs⟩
   unfold qZn
   simp only [SV.den, Sem.run_bind, hg hc, Result.andThen_ok]
   show (do let z ← Op.equal xt .nilIface .nilIface; pure (Value.bool !z) : Sem Value).run cx.P w = _
   rw [Sem.run_bind, he ms hu, Result.andThen_ok]; rfl
  ·exact binT_ok hρ hs h
 ·rename_i j hc
  split at h
  ·rename_i k e hu
   cases h
   refine ⟨?_, rfl, hs⟩
   unfold qZn
   simp only [SV.den, Sem.run_bind, hg2, Result.andThen_ok]
   show (do let z ← Op.equal xt (.map (some _)) (.map none); pure (Value.bool z) : Sem Value).run cx.P w = _
   rw [Sem.run_bind, hm _ _ _ hu, Result.andThen_ok]; rfl
  ·cases h
 ·rename_i j hc
  split at h
  ·rename_i k e hu
   cases h
   refine ⟨?_, rfl, hs⟩
   unfold qZn
   simp only [SV.den, Sem.run_bind, hg2, Result.andThen_ok]
   show (do let z ← Op.equal xt (.map (some _)) (.map none); pure (Value.bool !z) : Sem Value).run cx.P w = _
   rw [Sem.run_bind, hm _ _ _ hu, Result.andThen_ok]; rfl
  ·cases h
 ·rename_i hc
  split at h
  ·rename_i k e hu
   cases h
   refine ⟨?_, rfl, hs⟩
   unfold qZn
   simp only [SV.den, Sem.run_bind, hg2, Result.andThen_ok]
   show (do let z ← Op.equal xt (.map none) (.map none); pure (Value.bool z) : Sem Value).run cx.P w = _
   rw [Sem.run_bind, hm _ _ _ hu, Result.andThen_ok]; rfl
  ·cases h
 ·rename_i hc
  split at h
  ·rename_i k e hu
   cases h
   refine ⟨?_, rfl, hs⟩
   unfold qZn
   simp only [SV.den, Sem.run_bind, hg2, Result.andThen_ok]
   show (do let z ← Op.equal xt (.map none) (.map none); pure (Value.bool !z) : Sem Value).run cx.P w = _
   rw [Sem.run_bind, hm _ _ _ hu, Result.andThen_ok]; rfl
  ·cases h
 ·exact binT_ok hρ hs h
theorem Sat.rowPut {ρ : Env} {β : Bt} {s : St} {w w' : World} (hs : Sat ρ β s w) {j : Nat} {b b' : SBlk} {o' : Obj} (hj : s.bl[j]? = some b) (ho : b.occ (β j).2.1 = true) (ho' : b'.occ (β j).2.1 = true)
  (hg : qZw ρ β (β j).2.1 b' (some o')) (h1 : w'.heap[(β j).1]? = some o') (h2 : ∀ b, b < w.heap.size → b ≠ (β j).1 → w'.heap[b]? = w.heap[b]?) (hsz : w.heap.size ≤ w'.heap.size) (hos : w'.os = w.os) (ht : w'.tape = w.tape) (hu : w'.output = w.output) :
  Sat ρ β { s with bl := s.bl.set j b' } w' ∧ Ext s { s with bl := s.bl.set j b' } β β w w' := by
 have hlive : live β s j := ⟨b, hj, ho⟩
 have hls : ∀ i, live β { s with bl := s.bl.set j b' } i ↔ live β s i := live_set hj (ho'.trans ho.symm)
 have hx : Ext s { s with bl := s.bl.set j b' } β β w w' := by
  refine ⟨fun _ _ => rfl, fun i _ hl => (hls i).1 hl, ?_, hsz, ?_, by simp, hos, ht, hu⟩
  ·intro i hi hl
   have := qQt ((hls i).1 hl)
   omega
  ·intro b hb hn
   exact h2 b hb (fun e => hn j hlive e.symm)
 refine hs.mk' hx ?_ ?_ hs.kn
 ·intro i b2 hi
  by_cases hij : j = i
  ·subst hij
   have hlt := (List.getElem?_eq_some_iff.1 hj).1
   simp [hlt] at hi
   subst hi
   rw [h1]
   exact hg
  ·rw [List.getElem?_set_ne hij] at hi
   refine qZd (fun hocc => ?_) (hs.blk i b2 hi)
   exact h2 _ (hs.lt ⟨_, hi, hocc⟩) (fun e => hij (hs.inj _ _ hlive ⟨_, hi, hocc⟩ e.symm))
 ·intro a b ha hb
  exact hs.inj a b ((hls a).1 ha) ((hls b).1 hb)
end Go.Eng
end

/-!  -/
noncomputable section
set_option linter.unusedSectionVars false
namespace Go.Eng
def Src.code : Src → E
 | .list l => qQr l
 | .row d off _ => dropE d off
def textE (n q : E) : E := .f 11 n (.f 11 q (.c 0) (.c 0)) (.c 0)
def isByteRow (cx : Cx) (src dst : TypeId) : Bool := match cx.und src, cx.und dst with
 | some (.slice el), some .string => (match cx.und el with
  | some (.int .u8) => true
  | _ => false)
 | _, _ => false
theorem isByteRow_ok {cx : Cx} {src dst : TypeId} (h : isByteRow cx src dst = true) : ∃ el, cx.und src = some (.slice el) ∧ cx.und dst = some .string ∧ cx.und el = some (.int .u8) := by
 unfold isByteRow at h
 split at h
 ·rename_i el h1 h2
  split at h
  ·rename_i h3; exact ⟨el, h1, h2, h3⟩
  ·cases h
 ·cases h
def textT (cx : Cx) (src dst : TypeId) (x : SV) (s : St) : R :=
 match isByteRow cx src dst with
 | true => (match srcOf cx [.int .u8] x s with
  | some y => srcOb cx x s fun s => obl s (leE cx y.n (.c 1000000)) fun s => .leaf (.str (textE y.n y.code), s)
  | none => .bad 280)
 | false => (match convS cx src dst x with
  | some v => .leaf (v, s)
  | none => .bad 282)
section
variable {cx : Cx} {ρ : Env} (hρ : EnvOk cx ρ) {β : Bt} {s s' : St} {w : World}
include hρ
theorem Src.code_at (x : Src) (i : Nat) (hi : i < (x.n.ev ρ).toNat) : rdZ (x.code.ev ρ) i = x.at ρ i := by
 cases x with
 | list l => simp only [Src.code, Src.at]; exact qJo hρ l i
 | row d off m => simp only [Src.code, Src.at]; exact dropE_ev hρ d off i
theorem textE_ev (n q : E) : (textE n q).ev ρ = qQq (n.ev ρ) (qQq (q.ev ρ) 0) := by
 simp only [textE, E.ev, qZu hρ (n := 11) (by omega) (by omega)]; rfl
theorem textT_ok {src dst : TypeId} {x v : SV} (hs : Sat ρ β s w) (h : (textT cx src dst x s).sel ρ = some (v, s')) : LookOk cx ρ β s s' w (convert src dst (x.den ρ β)) v := by
 unfold textT at h
 split at h
 ·rename_i hbr
  obtain ⟨el, hu, hd, hel⟩ := isByteRow_ok hbr
  split at h
  case h_2 => cases h
  rename_i y hy
  obtain ⟨s1, e1, hs1, h1, hn, a, c, hden, hcell⟩ := srcOf_ok hρ hs (by simp) hy h
  obtain ⟨s2, e2, hs2, h2, h3⟩ := qQk hs1 h1
  cases h3
  have g3 := qQw hρ h2
  simp only [E.ev] at g3
  refine ⟨?_, e2.trans e1, hs2⟩
  generalize hxs : ((List.range (y.n.ev ρ).toNat).map fun (i : Nat) => IntKind.wrap .u8 (y.at ρ i)) = xs
  have hlen : xs.length = (y.n.ev ρ).toNat := by rw [← hxs]; simp
  have hstr : qQv ((textE y.n y.code).ev ρ) = strOfNums xs := by
   rw [textE_ev hρ]
   refine strOf_eq ?_ ?_ fun i hi => ?_
   ·rw [qQy, strOfNums_size, hlen]; omega
   ·rw [strOfNums_size, hlen]; omega
   ·rw [strOfNums_size] at hi
    have e : (strOfNums xs).data[i]'(by simpa [strOfNums] using hi) = UInt8.ofNat (xs[i]).toNat := by simp [strOfNums]
    rw [e]
    subst hxs
    simp only [List.getElem_map, List.getElem_range]
    rw [qQh _ _ (by omega), show (1 : Int) - 1 = 0 by omega, qQy, Src.code_at hρ y i (by omega)]
    generalize y.at ρ i = z
    have hy : IntKind.wrap .u8 z = z % 256 := by simp [IntKind.wrap, IntKind.bits, IntKind.signed]
    rw [hy]
    have := Int.emod_nonneg z (show (256 : Int) ≠ 0 by omega)
    have h2 := Int.emod_lt_of_pos z (show (0 : Int) < 256 by omega)
    simp only [UInt8.toNat_ofNat']
    omega
  rw [SV.den, hstr, hden]
  rcases Nat.eq_zero_or_pos (y.n.ev ρ).toNat with hz | hz
  ·have hx0 : xs = [] := List.eq_nil_of_length_eq_zero (by omega)
   subst hx0
   cases a with
   | none =>
    rw [run_convert_bytes_nil w src el (cx.undOk _ _ hu) (cx.undOk _ _ hel) _ _ dst (cx.undOk _ _ hd)]
    rfl
   | some a =>
    simp only [hz]
    rw [run_convert_bytes_string w src dst el _ _ _ (cx.undOk _ _ hu) (cx.undOk _ _ hel) (cx.undOk _ _ hd), run_bytesToString w _ 0 _ [] (run_loadCells_list w _ [] (fun j v hj => by simp at hj))]
    rfl
  ·obtain ⟨a', rfl, hc⟩ := hcell (by omega)
   have hl : (loadCells a' (y.n.ev ρ).toNat).run cx.P w = .ok (xs.map (Value.int .u8)).toArray w := by
    have := run_loadCells_list (P := cx.P) w a' (xs.map (Value.int .u8)) (fun j v hj => by
     have hjl : j < (y.n.ev ρ).toNat := by
      have := (List.getElem?_eq_some_iff.1 hj).1
      simpa [hlen] using this
     refine hc j v ?_
     have hg := tabL_get (f := fun i => qQc [.int .u8] (y.at ρ i)) (z := 1) (fun _ => rfl) (y.n.ev ρ).toNat 0 j 0 hjl (by omega)
     rw [Nat.mul_one, Nat.add_zero, Nat.zero_add] at hg
     rw [hg, ← hj, ← hxs]
     simp [List.getElem?_range hjl, qQc, ckV])
    simpa [hlen] using this
   rw [run_convert_bytes_string w src dst el _ _ _ (cx.undOk _ _ hu) (cx.undOk _ _ hel) (cx.undOk _ _ hd), run_bytesToString w _ _ _ xs hl, foldl_push_bytes]
   simp [strOfNums, ByteArray.empty, ByteArray.emptyWithCapacity]
   rfl
 ·split at h
  ·rename_i v' hv
   cases h
   exact ⟨convS_ok hρ hv, rfl, hs⟩
  ·cases h
end
def byteDst (cx : Cx) (dst : TypeId) : Option TypeId := match cx.und dst with
 | some (.slice e) => (match cx.und e with
  | some (.int .u8) => some e
  | _ => none)
 | _ => none
def bytesT (cx : Cx) (src dst : TypeId) (b : ByteArray) (s : St) : R :=
 match byteDst cx dst, cx.und src with
 | some e, some .string => if decide (b.size ≤ 1000000) && s.sc s.bl.length then
   .leaf (.sl (.own s.bl.length) 1 (.c 0) (.c b.size) none, s.pushB (.arr [.int .u8] e (qQr (b.data.toList.map fun u => .c u.toNat)) (.c b.size))) else .bad 283
 | _, _ => (match convS cx src dst (toS (.string b)) with
  | some v => .leaf (v, s)
  | none => .bad 282)
theorem tabL_getD (f : Nat → List Value) (g : Nat → Value) (hf : ∀ i, f i = [g i]) : ∀ (n i : Nat), tabL f i n = (List.range' i n).map g
 | 0, i => by simp [tabL]
 | n + 1, i => by simp [tabL, hf, tabL_getD f g hf n (i + 1), List.range'_succ]
theorem bytesT_ok {cx : Cx} {ρ : Env} (hρ : EnvOk cx ρ) {β : Bt} {s s' : St} {w : World} {src dst : TypeId} {b : ByteArray} {v : SV} (hs : Sat ρ β s w) (h : (bytesT cx src dst b s).sel ρ = some (v, s')) :
  ∃ β' w', (convert src dst (.string b)).run cx.P w = .ok (v.den ρ β') w' ∧ Sat ρ β' s' w' ∧ Ext s s' β β' w w' := by
 unfold bytesT at h
 split at h
 ·rename_i e hd hsrc
  split at h
  case isFalse => cases h
  rename_i hc
  simp only [Bool.and_eq_true, decide_eq_true_eq] at hc
  obtain ⟨hc, hsc⟩ := hc
  cases h
  have hdst : cx.und dst = some (.slice e) ∧ cx.und e = some (.int .u8) := by
   unfold byteDst at hd
   split at hd
   ·rename_i e' h1
    split at hd
    ·rename_i h2; cases hd; exact ⟨h1, h2⟩
    ·cases hd
   ·cases hd
  have hr := Lib.run_convert_string_bytes (P := cx.P) w src dst e b (cx.undOk _ _ hsrc) (cx.undOk _ _ hdst.1) (cx.undOk _ _ hdst.2)
  have hge := grownCap_ge w b.size 0 e
  have hle := grownCap_le_maxLen w b.size 0 e (by unfold maxLen; omega)
  have hsz : (Lib.bytesCells w e b).size = grownCap w b.size 0 e := by
   have : b.data.size = b.size := rfl
   simp [Lib.bytesCells, this]; omega
  have hrow : rowV [.int .u8] ((qQr (b.data.toList.map fun u => .c u.toNat)).ev ρ) b.size = (b.data.map fun u => Value.int .u8 u.toNat).toList := by
   unfold rowV
   rw [tabL_getD _ (fun i => .int .u8 ((b.data.toList.map fun u => (u.toNat : Int)).getD i 0)) (fun i => by
    simp only [qQc, ckV]
    congr 2
    have := qJo hρ (b.data.toList.map fun u => (E.c u.toNat)) i
    rw [this]
    simp only [List.getD_eq_getElem?_getD, List.getElem?_map]
    cases hq : b.data.toList[i]? with
    | none => simp [E.ev]; decide
    | some u =>
     simp only [Option.map_some, Option.getD_some, E.ev]
     have := u.toNat_lt
     exact qXi .u8 _ (by show (0 : Int) ≤ _; omega) (by show _ ≤ (255 : Int); omega))]
   apply List.ext_getElem?
   intro i
   have hbs : b.data.size = b.size := rfl
   simp only [List.getElem?_map, Array.toList_map]
   by_cases hi : i < b.size
   ·have hi' : i < b.data.toList.length := by simpa using hi
    rw [List.getElem?_range' hi]
    have hq : b.data[i]? = some (b.data[i]'(by simpa using hi')) := Array.getElem?_eq_getElem _
    simp [List.getD_eq_getElem?_getD, hq]
   ·rw [List.getElem?_eq_none (by simp; omega), List.getElem?_eq_none (by simp; omega)]
    rfl
  have hcells : Lib.bytesCells w e b = (rowV [.int .u8] ((qQr (b.data.toList.map fun u => .c u.toNat)).ev ρ) b.size ++ (Array.replicate (grownCap w b.size 0 e - b.size) (Value.int .u8 0)).toList).toArray := by
   rw [hrow]
   unfold Lib.bytesCells
   rw [← Array.toList_append]
  have hheap : (Lib.bytesWorld w e b).heap = w.heap.push (.cells (Lib.bytesCells w e b) e ((Lib.bytesCells w e b).size, (Lib.bytesCells w e b).size + 1)) := by
   apply Array.ext
   ·rw [Lib.bytesWorld_size]; simp
   ·intro i h1 h2
    rw [Lib.bytesWorld_size] at h1
    have a1 : ∀ (h : i < (Lib.bytesWorld w e b).heap.size), (Lib.bytesWorld w e b).heap[i]? = some ((Lib.bytesWorld w e b).heap[i]) := fun h => Array.getElem?_eq_getElem h
    have h1' : i < (Lib.bytesWorld w e b).heap.size := by rw [Lib.bytesWorld_size]; exact h1
    have b1 := a1 h1'
    by_cases hi : i < w.heap.size
    ·rw [Lib.bytesWorld_at_old w e b i hi, Array.getElem?_eq_getElem hi] at b1
     rw [← Option.some.inj b1, Array.getElem_push_lt hi]
    ·have : i = w.heap.size := by omega
     subst this
     rw [Lib.bytesWorld_at_new] at b1
     rw [← Option.some.inj b1, Array.getElem_push_eq]
  obtain ⟨l1, l2⟩ := hs.laidW (w' := Lib.bytesWorld w e b) (b := .arr [.int .u8] e (qQr (b.data.toList.map fun u => .c u.toNat)) (.c b.size)) (q := grownCap w b.size 0 e + 1) hsc rfl (by
   refine .inr ⟨(Array.replicate (grownCap w b.size 0 e - b.size) (Value.int .u8 0)).toList, by omega, ⟨((Lib.bytesCells w e b).size, (Lib.bytesCells w e b).size + 1), ?_, ?_⟩, ?_, by simpa using hle⟩
   ·right
    show _ ≤ (Lib.bytesCells w e b).size
    rw [hsz]; simp
   ·simp only [E.ev, Int.toNat_natCast]
    rw [hcells]
   ·simp only [E.ev, Int.toNat_natCast, List.length_append, qQi]
    simp
    omega) hheap rfl rfl rfl
  refine ⟨_, _, hr.trans ?_, l1, l2⟩
  simp [SV.den, bnew, E.ev]
 ·split at h
  ·rename_i v' hv
   cases h
   refine ⟨β, w, ?_, hs, Ext.refl _ _ _⟩
   have := convS_ok (cx := cx) (ρ := ρ) (β := β) (w := w) hρ hv
   rw [toS_den] at this
   exact this
  ·cases h
theorem Sat.turnedW {ρ : Env} {β : Bt} {s : St} {w w' : World} (hs : Sat ρ β s w) {j q : Nat} {b b' : SBlk} {ob' : Obj} (hj : s.bl[j]? = some b) (ho : b.occ (β j).2.1 = true)
  (hw : ∀ b, b ≠ (β j).1 → w'.heap[b]? = w.heap[b]?) (hnew : w'.heap[(β j).1]? = some ob') (hz : w'.heap.size = w.heap.size) (h1 : w'.os = w.os) (h2 : w'.tape = w.tape) (h3 : w'.output = w.output)
  (hsc : s.sc s.bl.length = true) (hl : b'.sc s.bl.length = true) (hg : qZw ρ β q b' (some ob')) :
  Sat ρ (bnew β s.bl.length (β j).1 q) ((s.drop j).pushB b') w' ∧ Ext s ((s.drop j).pushB b') β (bnew β s.bl.length (β j).1 q) w w' := by
 have hlive : live β s j := ⟨b, hj, ho⟩
 have hjl := (List.getElem?_eq_some_iff.1 hj).1
 have hlen : (s.drop j).bl.length = s.bl.length := by simp [St.drop]
 have hs3 : Sat ρ β (s.drop j) w' := (hs.drop j).other (fun k hk => hw _ (fun e => (qQp.1 hk).2 (hs.inj _ _ (qQp.1 hk).1 hlive e)))
  (fun k a i x ha hi => hw _ (fun e => (hs.ro k a i x ha hi).2 j hlive e.symm))
 have hdsc : (s.drop j).sc (s.drop j).bl.length = true := by
  rw [hlen]
  unfold St.sc St.drop at *
  rw [List.all_eq_true] at *
  intro b hb
  rcases List.mem_or_eq_of_mem_set hb with hb | rfl
  ·exact hsc b hb
  ·rfl
 have hag : ∀ i, i < s.bl.length → bnew β s.bl.length (β j).1 q i = β i := fun i hi => by unfold bnew; rw [if_neg (by omega)]
 have hs4 := hs3.pushB (b := b') (g := (β j).1) (q := q) hdsc (by rw [hlen]; exact hl) (by rw [hnew]; exact hg) (fun _ k hk he => (qQp.1 hk).2 (hs.inj _ _ (qQp.1 hk).1 hlive he))
  (fun _ k a i x ha hi => (hs.ro k a i x ha hi).2 j hlive)
 rw [hlen] at hs4
 refine ⟨hs4, ?_⟩
 refine ⟨hag, fun k hk hl => ?_, fun k hk hl => ?_, by omega, fun b hb hn => hw b (fun e => hn j hlive e.symm), by simp [St.pushB, St.drop], h1, h2, h3⟩
 ·rcases qQo hl with hl | ⟨rfl, _⟩
  ·exact qXz (hag k hk) (qQp.1 hl).1
  ·omega
 ·rcases qQo hl with hl | ⟨rfl, _⟩
  ·have := qQt (qQp.1 hl).1; omega
  ·exact .inr ⟨j, hlive, by rw [hlen]; simp [bnew]⟩
def markT (cx : Cx) (t : TypeId) (x : SV) (s : St) : R :=
 match byteDst cx t, x with
 | some e, .slice j 0 n c => (match dstOf' cx [.int .u8] e (.slice j 0 n c) s with
  | some d => if s.sc s.bl.length then .leaf (.sl (.own s.bl.length) 1 (.c 0) d.n none, (d.st s).pushB (.arr [.int .u8] e d.q d.n)) else .bad 285
  | none => .bad 285)
 | _, _ => .bad 285
theorem markT_ok {cx : Cx} {ρ : Env} (hρ : EnvOk cx ρ) {β : Bt} {s s' : St} {w : World} {t : TypeId} {x v : SV} (hs : Sat ρ β s w) (h : (markT cx t x s).sel ρ = some (v, s')) :
  ∃ β' w', (convert t t (x.den ρ β)).run cx.P w = .ok (v.den ρ β') w' ∧ Sat ρ β' s' w' ∧ Ext s s' β β' w w' := by
 unfold markT at h
 split at h
 case h_2 => cases h
 rename_i e j n c hd
 split at h
 case h_2 => cases h
 rename_i d hdst
 split at h
 case isFalse => cases h
 rename_i hsc
 cases h
 have hu : cx.und t = some (.slice e) ∧ cx.und e = some (.int .u8) := by
  unfold byteDst at hd
  split at hd
  ·rename_i e' h1
   split at hd
   ·rename_i h2; cases hd; exact ⟨h1, h2⟩
   ·cases hd
  ·cases hd
 rcases dstOf_ok hρ hs hdst with ⟨hV, _⟩ | ⟨j', b, cap, tl, hj, ho, hst, hV, ⟨mk, hmk, hheap⟩, hlen, hmax⟩
 ·simp [SV.den] at hV
 rw [hV]
 obtain ⟨lo, hi⟩ := mk
 generalize hcells : (rowV [.int .u8] (d.q.ev ρ) (d.n.ev ρ).toNat ++ tl).toArray = cells at hheap
 have hsize : cells.size = cap := by rw [← hcells, List.size_toArray, hlen]; simp
 have hshape : w.shape? (β j').1 = some (e, cells.size) := by simp [World.shape?, hheap]
 have hrun : (convert t t (.slice (some ⟨(β j').1, 0, none⟩) (d.n.ev ρ).toNat cap)).run cx.P w = .ok (.slice (some ⟨(β j').1, 0, none⟩) (d.n.ev ρ).toNat cap) (w.freeze ⟨(β j').1, cells.size, none⟩ 1) := by
  simp [convert, run_underlying (cx.undOk _ _ hu.1), run_underlying (cx.undOk _ _ hu.2), markStringish, hshape]
 have hlt : (β j').1 < w.heap.size := (Array.getElem?_eq_some_iff.1 hheap).1
 have hfz : ∃ mk', mkFree cells.size mk' ∧ (w.freeze ⟨(β j').1, cells.size, none⟩ 1).heap[(β j').1]? = some (.cells cells e mk') := by
  simp only [World.freeze, if_neg (show ¬ (1 : Nat) = 0 by decide), Array.getElem?_modify, if_true, hheap, Option.map_some]
  refine ⟨_, ?_, rfl⟩
  simp only [List.length_cons, List.length_nil, Nat.zero_add, Nat.mul_one] at hmk
  by_cases hq : lo = hi
  ·subst hq
   rw [beq_self_eq_true, if_pos rfl]
   right
   exact Nat.le_refl _
  ·rw [beq_eq_false_iff_ne.2 hq, if_neg (by decide)]
   right
   rcases hmk with hmk | hmk
   ·cases hmk; exact absurd rfl hq
   ·show cells.size ≤ min lo cells.size
    have : cap ≤ lo := hmk
    omega
 obtain ⟨mk', hmk', hnew⟩ := hfz
 have hother : ∀ b, b ≠ (β j').1 → (w.freeze ⟨(β j').1, cells.size, none⟩ 1).heap[b]? = w.heap[b]? := fun b hb => by
  simp only [World.freeze, if_neg (show ¬ (1 : Nat) = 0 by decide), Array.getElem?_modify]
  rw [if_neg (Ne.symm hb)]
 obtain ⟨l1, l2⟩ := hs.turnedW (q := cap + 1) (b' := .arr [.int .u8] e d.q d.n) hj ho hother hnew (by simp [World.freeze]) rfl rfl rfl hsc rfl (by
  refine .inr ⟨tl, by omega, ⟨mk', ?_, ?_⟩, ?_, by simpa using hmax⟩
  ·simpa [hsize] using hmk'
  ·rw [hcells]
  ·simpa using hlen)
 refine ⟨_, _, hrun.trans ?_, by rw [hst]; exact l1, by rw [hst]; exact l2⟩
 simp [SV.den, bnew, E.ev]
end Go.Eng
end

/-!  -/
noncomputable section
namespace Go.Eng
open Go.MapKept
theorem mapF_len (kk vk : CK) (q : Int) : ∀ (n i : Nat), (mapF kk vk q i n).length = n
 | 0, _ => rfl
 | n + 1, i => by simp [mapF, mapF_len kk vk q n (i + 1)]
theorem mapF_get (kk vk : CK) (q : Int) : ∀ (n i k : Nat), k < n → (mapF kk vk q i n)[k]? = some ⟨ckV kk (rdZ (rdZ q (i + k : Nat)) 0), ckV vk (rdZ (rdZ q (i + k : Nat)) 1), i + k⟩
 | n + 1, i, 0, _ => by simp [mapF]
 | n + 1, i, k + 1, h => by
  simp only [mapF, List.getElem?_cons_succ]
  rw [mapF_get kk vk q n (i + 1) k (by omega), show i + 1 + k = i + (k + 1) by omega]
theorem mapF_snoc (kk vk : CK) (q : Int) : ∀ (n i : Nat), mapF kk vk q i (n + 1) = mapF kk vk q i n ++ [⟨ckV kk (rdZ (rdZ q (i + n : Nat)) 0), ckV vk (rdZ (rdZ q (i + n : Nat)) 1), i + n⟩]
 | 0, i => by simp [mapF]
 | n + 1, i => by
  rw [mapF, mapF_snoc kk vk q n (i + 1), mapF, show i + 1 + n = i + (n + 1) by omega]
  rfl
theorem mapE_congr {kk vk : CK} {q q' : Int} {n : Nat} (h : ∀ i : Nat, i < n → ckV kk (rdZ (rdZ q i) 0) = ckV kk (rdZ (rdZ q' i) 0) ∧ ckV vk (rdZ (rdZ q i) 1) = ckV vk (rdZ (rdZ q' i) 1)) : mapE kk vk q n = mapE kk vk q' n := by
 unfold mapE
 apply List.ext_getElem?
 intro k
 rcases Nat.lt_or_ge k n with hk | hk
 ·rw [mapF_get _ _ _ _ _ _ hk, mapF_get _ _ _ _ _ _ hk, Nat.zero_add, (h k hk).1, (h k hk).2]
 ·rw [List.getElem?_eq_none (by rw [mapF_len]; exact hk), List.getElem?_eq_none (by rw [mapF_len]; exact hk)]
theorem findNow_mapF {kk vk : CK} {d : TypeDesc} {K : Value} (hK : IsKey d K) (hk : ∀ x, IsKey d (ckV kk x)) {p : Nat → Prop} {q : Int} (hp : ∀ j, p j ↔ ckV kk (rdZ (rdZ q (j : Nat)) 0) = K) : ∀ (n i m : Nat),
  (mfN p i n = -1 ∧ Instr.findNow d K (mapF kk vk q i n) m = some none) ∨
  ∃ j : Nat, i ≤ j ∧ j < i + n ∧ mfN p i n = j ∧ Instr.findNow d K (mapF kk vk q i n) m = some (some (m + (j - i), ckV vk (rdZ (rdZ q j) 1))) ∧ ckV kk (rdZ (rdZ q j) 0) = K
 | 0, i, m => .inl ⟨rfl, rfl⟩
 | n + 1, i, m => by
  obtain ⟨r, hr, hiff⟩ := sameNow_of_keys hK (hk (rdZ (rdZ q i) 0))
  simp only [mapF, Instr.findNow, hr, mfN]
  cases r with
  | true =>
   have e : ckV kk (rdZ (rdZ q i) 0) = K := (hiff.1 rfl).symm
   refine .inr ⟨i, Nat.le_refl _, by omega, if_pos ((hp i).2 e), by simp, e⟩
  | false =>
   have hne : ¬ p i := fun h => by have := hiff.2 ((hp i).1 h).symm; cases this
   rw [if_neg hne]
   rcases findNow_mapF hK hk hp n (i + 1) (m + 1) with ⟨h1, h2⟩ | ⟨j, h1, h2, h3, h4, h5⟩
   ·exact .inl ⟨h1, h2⟩
   ·exact .inr ⟨j, by omega, by omega, h3, by rw [h4, show m + 1 + (j - (i + 1)) = m + (j - i) by omega], h5⟩
def ck1 (cx : Cx) (t : TypeId) : Option CK := match cx.und t with
 | some (.int k) => some (.int k)
 | some .bool => some .bool
 | some .string => some .str
 | _ => none
def keyE (cx : Cx) : CK → SV → Option (Nat × E)
 | .int .i64, x => (match codeOf cx (.int .i64) x with
  | some e => some (25, e)
  | none => none)
 | .str, x => (match strE x with
  | some e => some (26, e)
  | none => none)
 | _, _ => none
def isI64 (t : Option TypeDesc) : Bool := match t with
 | some (.int .i64) => true
 | _ => false
def isKT (cx : Cx) (kk : CK) (t : TypeId) : Bool := match kk, cx.und t with
 | .int .i64, some (.int .i64) => true
 | .str, some .string => true
 | _, _ => false
def makeMapT (cx : Cx) (t : TypeId) (s : St) : R := match cx.und t with
 | some (.map k e) => (match ck1 cx k, ck1 cx e with
  | some kk, some vk => if s.sc s.bl.length then .leaf (.mp s.bl.length, s.pushB (.map kk vk (.c 0) (.c 0))) else .bad 330
  | _, _ => .bad 331)
 | _ => .bad 332
def lookupT (cx : Cx) (t : TypeId) (x k : SV) (ok : Bool) (s : St) : R := match cx.und t, x with
 | some (.map kt et), .mp j => (match s.bl[j]?, cx.und et with
  | some (.map kk (.int vk) q n), some (.int vk') => (match keyE cx kk k, zeroS cx et with
   | some (f, e), some (.int zk (.c 0)) => if isKT cx kk kt && decide (vk = vk') && decide (zk = vk) then
     obl s (leE cx (.c 0) n) fun s => obl s (leE cx n (.c 1000000)) fun s => shareE cx (.f f q n e) s fun ix s =>
     shareE cx (.ite (E.b' cx .le .i64 (.c 0) ix) (.w vk (E.rdA (E.rdA q ix) (.c 1))) (.c 0)) s fun v s =>
     ret s (if ok then .tup [.int vk v, .bool (E.b' cx .le .i64 (.c 0) ix)] else .int vk v) else .bad 333
   | _, _ => .bad 334)
  | _, _ => .bad 335)
 | _, _ => .bad 336
def mapUpdT (cx : Cx) (t : TypeId) (x k v : SV) (s : St) : T St := match cx.und t, x with
 | some (.map kt et), .mp j => (match s.bl[j]? with
  | some (.map kk vk q n) => (match keyE cx kk k, codeOf cx vk v with
   | some (f, e), some ve => if isKT cx kk kt then
     obl s (leE cx (.c 0) n) fun s => obl s (leE cx n (.c 999999)) fun s => shareE cx (.f f q n e) s fun ix s =>
     shareE cx (.f 14 q (.ite (E.b' cx .le .i64 (.c 0) ix) ix n) (qQr [e, ve])) s fun q' s =>
     shareE cx (.ite (E.b' cx .le .i64 (.c 0) ix) n (E.b' cx .padd .i64 n (.c 1))) s fun n' s =>
     .leaf { s with bl := s.bl.set j (.map kk vk q' n') } else .bad 340
   | _, _ => .bad 341)
  | _ => .bad 342)
 | _, _ => .bad 343
section
variable {cx : Cx} {ρ : Env} (hρ : EnvOk cx ρ) {β : Bt} {s s' : St} {w : World}
include hρ
theorem le0_ev (ix : E) : (E.b' cx .le .i64 (.c 0) ix).ev ρ = if 0 ≤ ix.ev ρ then 1 else 0 := by
 rw [E.b'_ev hρ]
 show qQj (decide (0 ≤ ix.ev ρ)) = _
 unfold qQj
 by_cases h : 0 ≤ ix.ev ρ <;> simp [h]
theorem find_ok {kk vk : CK} {kt : TypeId} {K : SV} {f : Nat} {e : E} (hk : keyE cx kk K = some (f, e)) (ht : isKT cx kk kt = true) (q n : E) (hn1 : n.ev ρ ≤ 1000000) :
  ∃ d, cx.P.underlying kt = some d ∧ IsKey d (K.den ρ β) ∧ K.den ρ β = ckV kk (e.ev ρ) ∧
   (((E.f f q n e).ev ρ = -1 ∧ Instr.findNow d (K.den ρ β) (mapE kk vk (q.ev ρ) (n.ev ρ).toNat) 0 = some none) ∨
    ∃ j : Nat, j < (n.ev ρ).toNat ∧ (E.f f q n e).ev ρ = j ∧ Instr.findNow d (K.den ρ β) (mapE kk vk (q.ev ρ) (n.ev ρ).toNat) 0 = some (some (j, ckV vk (rdZ (rdZ (q.ev ρ) j) 1))) ∧ ckV kk (rdZ (rdZ (q.ev ρ) j) 0) = K.den ρ β) := by
 have hmin : min (n.ev ρ).toNat mapMax = (n.ev ρ).toNat := by unfold mapMax; omega
 unfold keyE at hk
 split at hk
 ·split at hk <;> cases hk
  rename_i he
  have hK := qYz hρ β he
  have hK' : K.den ρ β = .int .i64 (e.ev ρ) := by
   cases K <;> simp only [codeOf] at he <;> try (cases he; done)
   split at he <;> cases he
   rename_i hc
   simp only [Bool.and_eq_true, decide_eq_true_eq] at hc
   obtain ⟨rfl, _⟩ := hc
   rfl
  unfold isKT at ht
  split at ht
  ·rename_i hu
   refine ⟨_, cx.undOk _ _ hu, by rw [hK']; rfl, hK, ?_⟩
   have hf : (E.f 25 q n e).ev ρ = mfiZ (q.ev ρ) (n.ev ρ) (e.ev ρ) := by simp only [E.ev]; exact qZu hρ (by omega) (by omega) _ _ _
   rw [hf]
   unfold mfiZ
   rw [hmin]
   rcases findNow_mapF (kk := .int .i64) (vk := vk) (d := .int .i64) (K := K.den ρ β) (by rw [hK']; rfl) (fun x => rfl) (p := fun i => IntKind.wrap .i64 (rdZ (rdZ (q.ev ρ) i) 0) = e.ev ρ) (q := q.ev ρ) (fun j => by rw [hK']; simp [ckV]) (n.ev ρ).toNat 0 0 with ⟨h1, h2⟩ | ⟨j, _, h2, h3, h4, h5⟩
   ·exact .inl ⟨h1, h2⟩
   ·exact .inr ⟨j, by omega, h3, by rw [show mapE (.int .i64) vk (q.ev ρ) (n.ev ρ).toNat = mapF (.int .i64) vk (q.ev ρ) 0 (n.ev ρ).toNat from rfl, h4]; simp, h5⟩
  ·rename_i h _; cases h
  ·cases ht
 ·split at hk <;> cases hk
  rename_i he
  have hK' := qJm hρ β he
  unfold isKT at ht
  split at ht
  ·rename_i h _; cases h
  ·rename_i hu
   refine ⟨_, cx.undOk _ _ hu, by rw [hK']; trivial, hK', ?_⟩
   have hf : (E.f 26 q n e).ev ρ = mfsZ (q.ev ρ) (n.ev ρ) (e.ev ρ) := by simp only [E.ev]; exact qZu hρ (by omega) (by omega) _ _ _
   rw [hf]
   unfold mfsZ
   rw [hmin]
   rcases findNow_mapF (kk := .str) (vk := vk) (d := .string) (K := K.den ρ β) (by rw [hK']; trivial) (fun x => trivial) (p := fun i => qQv (rdZ (rdZ (q.ev ρ) i) 0) = qQv (e.ev ρ)) (q := q.ev ρ) (fun j => by rw [hK']; simp [ckV]) (n.ev ρ).toNat 0 0 with ⟨h1, h2⟩ | ⟨j, _, h2, h3, h4, h5⟩
   ·exact .inl ⟨h1, h2⟩
   ·exact .inr ⟨j, by omega, h3, by rw [show mapE .str vk (q.ev ρ) (n.ev ρ).toNat = mapF .str vk (q.ev ρ) 0 (n.ev ρ).toNat from rfl, h4]; simp, h5⟩
  ·cases ht
 ·cases hk
omit hρ in
theorem makeMapT_ok (hs : Sat ρ β s w) {t : TypeId} {v : SV} (h : (makeMapT cx t s).sel ρ = some (v, s')) :
  ∃ β' w', (Instr.makeMap t none).run cx.P w = .ok (v.den ρ β') w' ∧ Sat ρ β' s' w' ∧ Ext s s' β β' w w' := by
 unfold makeMapT at h
 split at h <;> try (cases h; done)
 rename_i k e hu
 split at h <;> try (cases h; done)
 rename_i kk vk hk hv
 split at h <;> try (cases h; done)
 rename_i hsc
 cases h
 obtain ⟨l1, l2⟩ := hs.laidW (w' := w.alloc (.map #[] 0)) (b := .map kk vk (.c 0) (.c 0)) (o := .map #[] 0) (q := 0) hsc rfl rfl rfl rfl rfl rfl
 refine ⟨_, _, ?_, l1, l2⟩
 simp [Instr.makeMap, newObj, Sem.run, SV.den, bnew, Result.andThen]
theorem lookupT_ok (hs : Sat ρ β s w) {t : TypeId} {X K v : SV} {ok : Bool} (h : (lookupT cx t X K ok s).sel ρ = some (v, s')) :
  LookOk cx ρ β s s' w (Instr.lookup t (X.den ρ β) (K.den ρ β) ok) v := by
 unfold lookupT at h
 split at h <;> try (cases h; done)
 rename_i kt et j hu
 split at h <;> try (cases h; done)
 rename_i kk vk q n vk' hj hue
 split at h <;> try (cases h; done)
 rename_i f e zk hk hz
 split at h <;> try (cases h; done)
 rename_i hc
 simp only [Bool.and_eq_true, decide_eq_true_eq] at hc
 obtain ⟨⟨hkt, rfl⟩, rfl⟩ := hc
 obtain ⟨s1, e1, hs1, h1, h⟩ := qQk hs h
 obtain ⟨s2, e2, hs2, h2, h⟩ := qQk hs1 h
 obtain ⟨ix, s3, hix, e3, hs3, h⟩ := qJp hρ hs2 h
 obtain ⟨ve, s4, hve, e4, hs4, h⟩ := qJp hρ hs3 h
 have g1 := qQw hρ h1
 have g2 := qQw hρ h2
 simp only [E.ev] at g1 g2
 have hblk := hs.blk j _ hj
 simp only [qZw] at hblk
 obtain ⟨d, hd, hik, hKe, hfind⟩ := find_ok hρ (β := β) (vk := .int zk) hk hkt q n g2
 have hzv : (zeroValue et).run cx.P w = .ok (.int zk 0) w := zeroS_ok (ρ := ρ) (β := β) hz
 have hve' : ve.ev ρ = if 0 ≤ ix.ev ρ then zk.wrap (rdZ (rdZ (q.ev ρ) (ix.ev ρ)) 1) else 0 := by
  rw [hve]
  simp only [E.ev, le0_ev hρ, E.rdA_ev hρ]
  split <;> split <;> first | rfl | (exfalso; simp_all; done)
 have hrun : (Instr.lookup t (.map (some (β j).1)) (K.den ρ β) ok).run cx.P w = .ok (if ok then .tuple #[.int zk (ve.ev ρ), .bool (decide (0 ≤ ix.ev ρ))] else .int zk (ve.ev ρ)) w := by
  rcases hfind with ⟨i1, i2⟩ | ⟨k, hkn, i1, i2, i3⟩
  ·have hi : ix.ev ρ = -1 := by rw [hix]; exact i1
   rw [hi] at hve'
   simp only [Instr.lookup, Sem.run_bind, qQx hu, Result.andThen_ok, run_getObj_map hblk, run_checkKey hd hik, List.toList_toArray, run_findKey hd i2, hzv]
   have hve' : ve.ev ρ = 0 := by rw [hve', if_neg (by omega)]
   rw [hve', hi]
   cases ok <;> simp [Result.andThen, run_findKey hd i2, hzv]
  ·have hi : ix.ev ρ = k := by rw [hix]; exact i1
   rw [hi] at hve'
   simp only [Instr.lookup, Sem.run_bind, qQx hu, Result.andThen_ok, run_getObj_map hblk, run_checkKey hd hik, List.toList_toArray, run_findKey hd i2]
   have hve' : ve.ev ρ = zk.wrap (rdZ (rdZ (q.ev ρ) k) 1) := by rw [hve', if_pos (by omega)]
   rw [hve', hi]
   cases ok <;> simp [Result.andThen, run_findKey hd i2, ckV]
 cases h
 refine ⟨?_, by rw [e4, e3, e2, e1], hs4⟩
 simp only [SV.den]
 rw [hrun]
 congr 1
 cases ok
 ·rfl
 ·simp only [if_true, SV.den, SV.denL, le0_ev hρ]
  by_cases h0 : 0 ≤ ix.ev ρ <;> simp [h0]
theorem mapUpdT_ok (hs : Sat ρ β s w) {t : TypeId} {X K V : SV} (h : (mapUpdT cx t X K V s).sel ρ = some s') :
  ∃ w', (Instr.mapUpdate t (X.den ρ β) (K.den ρ β) (V.den ρ β)).run cx.P w = .ok () w' ∧ Sat ρ β s' w' ∧ Ext s s' β β w w' := by
 unfold mapUpdT at h
 split at h <;> try (cases h; done)
 rename_i kt et j hu
 split at h <;> try (cases h; done)
 rename_i kk vk q n hj
 split at h <;> try (cases h; done)
 rename_i f e ve hk hv
 split at h <;> try (cases h; done)
 rename_i hkt
 obtain ⟨s1, e1, hs1, h1, h⟩ := qQk hs h
 obtain ⟨s2, e2, hs2, h2, h⟩ := qQk hs1 h
 obtain ⟨ix, s3, hix, e3, hs3, h⟩ := qJp hρ hs2 h
 obtain ⟨q', s4, hq', e4, hs4, h⟩ := qJp hρ hs3 h
 obtain ⟨n', s5, hn', e5, hs5, h⟩ := qJp hρ hs4 h
 cases h
 have e15 : s5.bl = s.bl := by rw [e5, e4, e3, e2, e1]
 have g1 := qQw hρ h1
 have g2 := qQw hρ h2
 simp only [E.ev] at g1 g2
 have hj5 : s5.bl[j]? = some (.map kk vk q n) := by rw [e15]; exact hj
 have hblk := hs.blk j _ hj
 simp only [qZw] at hblk
 obtain ⟨d, hd, hik, hKe, hfind⟩ := find_ok hρ (β := β) (vk := vk) hk hkt q n (by omega)
 have hVe := qYz hρ β hv
 have hrow0 : rdZ ((qQr [e, ve]).ev ρ) 0 = e.ev ρ := by have := qJo hρ [e, ve] 0; simpa using this
 have hrow1 : rdZ ((qQr [e, ve]).ev ρ) 1 = ve.ev ρ := by have := qJo hρ [e, ve] 1; simpa using this
 have hsame : Instr.sameBits 10000 (K.den ρ β) (K.den ρ β) = true := by
  revert hik
  cases K.den ρ β <;> cases d <;> simp [IsKey, Instr.sameBits, bytes_beq]
 have hq'' : q'.ev ρ = updZ (q.ev ρ) (if 0 ≤ ix.ev ρ then ix.ev ρ else n.ev ρ) ((qQr [e, ve]).ev ρ) := by
  rw [hq']
  have : (E.f 14 q (.ite (E.b' cx .le .i64 (.c 0) ix) ix n) (qQr [e, ve])).ev ρ = updZ (q.ev ρ) ((E.ite (E.b' cx .le .i64 (.c 0) ix) ix n).ev ρ) ((qQr [e, ve]).ev ρ) := by
   simp only [E.ev]; exact qZu hρ (by omega) (by omega) _ _ _
  rw [this]
  congr 1
  simp only [E.ev, le0_ev hρ]
  split <;> split <;> first | rfl | (exfalso; simp_all; done)
 have hn'' : n'.ev ρ = if 0 ≤ ix.ev ρ then n.ev ρ else n.ev ρ + 1 := by
  rw [hn']
  simp only [E.ev, le0_ev hρ, E.b'_ev hρ, BO.ev]
  split <;> split <;> first | rfl | (exfalso; simp_all; done)
 -- the entries behind the store
 have hput : ∀ x : Nat, updZ (q.ev ρ) x ((qQr [e, ve]).ev ρ) = q'.ev ρ → ∀ k : Nat, rdZ (q'.ev ρ) k = if k = x then (qQr [e, ve]).ev ρ else rdZ (q.ev ρ) k := by
  intro x hx k
  rw [← hx, qZr]
  simp
 have key : ∀ o' : Obj, o' = .map (mapE kk vk (q'.ev ρ) (n'.ev ρ).toNat).toArray (n'.ev ρ).toNat →
   (Instr.mapUpdate t (.map (some (β j).1)) (K.den ρ β) (V.den ρ β)).run cx.P w = .ok () { w with heap := w.heap.setIfInBounds (β j).1 o' } := by
  intro o' ho'
  rcases hfind with ⟨i1, i2⟩ | ⟨k, hkn, i1, i2, i3⟩
  ·have hi : ix.ev ρ = -1 := by rw [hix]; exact i1
   rw [hi, if_neg (by omega)] at hn'' hq''
   have hN : (n'.ev ρ).toNat = (n.ev ρ).toNat + 1 := by omega
   have hrd := hput (n.ev ρ).toNat (by rw [hq'', Int.toNat_of_nonneg g1])
   have hobj : o' = .map ((mapE kk vk (q.ev ρ) (n.ev ρ).toNat).toArray.push ⟨K.den ρ β, V.den ρ β, (n.ev ρ).toNat⟩) ((n.ev ρ).toNat + 1) := by
    rw [ho', hN]
    congr 1
    have h1 : mapE kk vk (q'.ev ρ) ((n.ev ρ).toNat + 1) = mapE kk vk (q.ev ρ) (n.ev ρ).toNat ++ [⟨K.den ρ β, V.den ρ β, (n.ev ρ).toNat⟩] := by
     unfold mapE
     rw [mapF_snoc, Nat.zero_add, hrd (n.ev ρ).toNat, if_pos rfl, hrow0, hrow1, ← hKe, ← hVe]
     congr 1
     exact mapE_congr fun i hi => by rw [hrd i, if_neg (by omega)]; exact ⟨rfl, rfl⟩
    rw [h1]
    simp
   simp only [Instr.mapUpdate, Sem.run_bind, qQx hu, Result.andThen_ok, run_getObj_map hblk, run_checkKey hd hik, List.toList_toArray]
   simp [Result.andThen, run_findKey hd i2, run_setObj_map _ hblk, hobj]
  ·have hi : ix.ev ρ = k := by rw [hix]; exact i1
   rw [hi, if_pos (by omega)] at hn'' hq''
   have hrd := hput k hq''.symm
   have hent : (mapE kk vk (q.ev ρ) (n.ev ρ).toNat)[k]? = some ⟨K.den ρ β, ckV vk (rdZ (rdZ (q.ev ρ) k) 1), k⟩ := by
    unfold mapE
    rw [mapF_get _ _ _ _ _ _ hkn, Nat.zero_add, i3]
   have hobj : o' = .map ((mapE kk vk (q.ev ρ) (n.ev ρ).toNat).toArray.modify k fun x => { x with key := K.den ρ β, val := V.den ρ β }) (n.ev ρ).toNat := by
    rw [ho', hn'']
    congr 1
    apply Array.ext_getElem?
    intro i
    rw [Array.getElem?_modify]
    simp only [List.getElem?_toArray]
    unfold mapE at hent ⊢
    by_cases hki : k = i
    ·subst hki
     rw [if_pos rfl, hent, mapF_get _ _ _ _ _ _ hkn, Nat.zero_add, hrd k, if_pos rfl, hrow0, hrow1, ← hKe, ← hVe]
     rfl
    ·rw [if_neg hki]
     rcases Nat.lt_or_ge i (n.ev ρ).toNat with hi' | hi'
     ·rw [mapF_get _ _ _ _ _ _ hi', mapF_get _ _ _ _ _ _ hi', Nat.zero_add, hrd i, if_neg (fun e => hki e.symm)]
     ·rw [List.getElem?_eq_none (by rw [mapF_len]; exact hi'), List.getElem?_eq_none (by rw [mapF_len]; exact hi')]
   have hkey : (Instr.keyThatStays (K.den ρ β) (K.den ρ β)).run cx.P w = .ok (K.den ρ β) w := by simp [Instr.keyThatStays, hsame]
   simp only [Instr.mapUpdate, Sem.run_bind, qQx hu, Result.andThen_ok, run_getObj_map hblk, run_checkKey hd hik, List.toList_toArray]
   simp [Result.andThen, run_findKey hd i2, run_setObj_map _ hblk, hobj, hent, hkey]
 have hnew := heap_set (o' := .map (mapE kk vk (q'.ev ρ) (n'.ev ρ).toNat).toArray (n'.ev ρ).toNat) hblk
 refine ⟨_, key _ rfl, ?_⟩
 have hfin := hs5.rowPut (w' := { w with heap := w.heap.setIfInBounds (β j).1 (.map (mapE kk vk (q'.ev ρ) (n'.ev ρ).toNat).toArray (n'.ev ρ).toNat) }) (b' := .map kk vk q' n') hj5 rfl rfl rfl hnew.1 (fun b _ hb => hnew.2 b hb) (by simp) rfl rfl rfl
 exact ⟨hfin.1, (qJd e15 β w).trans hfin.2⟩
end
end Go.Eng
end
