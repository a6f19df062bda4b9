/-
  A symbolic executor, part P: arguments that are arrays of numbers; the round product and the saturated sum, in plain numbers.
-/
import Derived.Test.YtjooaieolphomaaEngN
import Derived.OpenShut
set_option linter.unusedVariables false
set_option linter.unusedSimpArgs false
namespace Go.Eng
open Go.RowKit Go.WideShapes Go.ChangeShapes

theorem wf_bd {k : IntKind} {x : Int} (h : (Lit.int k x).wf = true) : klo k ≤ x ∧ x ≤ khi k := by
  cases k <;> simpa [Lit.wf, IntKind.min, IntKind.max, IntKind.bits, IntKind.signed, klo, khi] using h

section
variable {H : Type} {enc : TypeId × Value → H} {P : Program} {w : World} {base : Nat} {spare : Nat → Bool} {held : Bool}

theorem mapM_some_of {α γ : Type} (f : α → Option γ) (g : α → γ) : ∀ (l : List α), (∀ a ∈ l, f a = some (g a)) → l.mapM f = some (l.map g)
  | [], _ => rfl
  | a :: l, h => by
    rw [List.mapM_cons, h a (by simp), mapM_some_of f g l (fun x hx => h x (by simp [hx]))]
    rfl

theorem open_arrI {r : Reach} {b0 : Nat} {t e : TypeId} {n : Nat} {k : IntKind} {v : Value} {d : DataW H} {ps : List MemPlace} (ht : P.underlying t = some (.array n e)) (he : P.underlying e = some (.int k)) (hce : P.cellsOf e = 1) (hct : P.cellsOf t = n)
    (hval : Value.okWide P w r b0 t v) (hd : DataW.Trod enc P w base spare held t v d ps) :
    ∃ xs : List Int, xs.length = n ∧ v = .agg (xs.map (Value.int k)).toArray ∧ d = .agg (xs.map fun x => .lit (.int k x)) ∧ ps = [] ∧ ∀ x ∈ xs, (Lit.int k x).wf = true := by
  have hv : ∃ cs : Array Value, v = .agg cs ∧ cs.size = n := by
    simp only [Value.okWide, ht] at hval
    obtain ⟨cs, h1, h2, _⟩ := hval
    exact ⟨cs, h1, by rw [h2, hct]⟩
  obtain ⟨cs, rfl, hn⟩ := hv
  obtain ⟨fuel, hf⟩ := hd
  obtain ⟨xs, m, rfl, hx, hl, hxl, hall⟩ := DataW.trod_array ht hf
  have key : ∀ i, i < n → ∃ a, cs.toList[i]? = some (.int k a) ∧ xs[i]? = some (.lit (.int k a), []) ∧ (Lit.int k a).wf = true := by
    intro i hi
    have h := hall i hi
    rw [hce, Nat.mul_one] at h
    have hxi : ∃ y, xs[i]? = some y := by
      rw [List.getElem?_eq_getElem (by omega)]
      exact ⟨_, rfl⟩
    obtain ⟨y, hy⟩ := hxi
    rw [hy] at h
    obtain ⟨a, h1, h2, h3⟩ := DataW.trod_int he h
    refine ⟨a, ?_, by rw [hy, h2], h3⟩
    have hc : ((Value.agg cs).cells.toList.drop i).take 1 = [.int k a] := h1
    have hci : (Value.agg cs).cells.toList[i]? = some (.int k a) := by
      have : (((Value.agg cs).cells.toList.drop i).take 1)[0]? = some (.int k a) := by rw [hc]; rfl
      simpa [List.getElem?_take, List.getElem?_drop] using this
    exact hci
  let f : Nat → Int := fun i => if h : i < n then Classical.choose (key i h) else 0
  have hf' : ∀ i (h : i < n), cs.toList[i]? = some (.int k (f i)) ∧ xs[i]? = some (.lit (.int k (f i)), []) ∧ (Lit.int k (f i)).wf = true := by
    intro i h
    have := Classical.choose_spec (key i h)
    simp only [f, h, dif_pos]
    exact this
  refine ⟨(List.range n).map f, by simp, ?_, ?_, ?_, ?_⟩
  · congr 1
    apply Array.ext'
    apply List.ext_getElem?
    intro i
    rcases Nat.lt_or_ge i n with h | h
    · rw [(hf' i h).1]; simp [h]
    · rw [List.getElem?_eq_none (by simpa [hn] using h)]; simp [h]
  · have hx1 := (Prod.mk.inj hx).1
    rw [hx1]
    congr 1
    apply List.ext_getElem?
    intro i
    rcases Nat.lt_or_ge i n with h | h
    · rw [List.getElem?_map, (hf' i h).2.1]; simp [h]
    · rw [List.getElem?_eq_none (by simpa [hxl] using h)]; simp [h]
  · have hx2 := (Prod.mk.inj hx).2
    rw [hx2]
    rw [List.flatMap_eq_nil_iff]
    intro y hy
    obtain ⟨i, hi⟩ := List.mem_iff_getElem?.1 hy
    rcases Nat.lt_or_ge i n with h | h
    · rw [(hf' i h).2.1] at hi
      cases hi; rfl
    · rw [List.getElem?_eq_none (by omega)] at hi; cases hi
  · intro x hx'
    obtain ⟨i, hi, rfl⟩ := List.mem_map.1 hx'
    exact (hf' i (by simpa using hi)).2.2

theorem shut_arrI {t e : TypeId} {n : Nat} {k : IntKind} {xs : List Int} (ht : P.underlying t = some (.array n e)) (he : P.underlying e = some (.int k)) (hce : P.cellsOf e = 1) (hct : P.cellsOf t = n) (hl : xs.length = n) (hw : ∀ x ∈ xs, (Lit.int k x).wf = true) :
    DataW.Trod enc P w base spare held t (.agg (xs.map (Value.int k)).toArray) (.agg (xs.map fun x => .lit (.int k x))) [] := by
  refine ⟨2, ?_⟩
  have hm : (List.range n).mapM (fun i => DataW.trod enc P w base spare held 1 e ((((Value.agg (xs.map (Value.int k)).toArray).cells.toList).drop (i * P.cellsOf e)).take (P.cellsOf e))) = some ((List.range n).map fun i => ((DataW.lit (.int k (xs.getD i 0)) : DataW H), ([] : List MemPlace))) := by
    refine mapM_some_of _ _ _ fun i hi => ?_
    have hi' : i < xs.length := by simpa [hl] using hi
    have hc : (((Value.agg (xs.map (Value.int k)).toArray).cells.toList).drop (i * P.cellsOf e)).take (P.cellsOf e) = [.int k xs[i]] := by
      rw [hce, Nat.mul_one]
      simp [Value.cells, List.drop_eq_getElem_cons, hi']
    rw [hc]
    have hwf := hw xs[i] (List.getElem_mem hi')
    simp [DataW.trod, he, hwf, List.getD_eq_getElem?_getD, hi']
  unfold DataW.trod
  rw [ht]
  have hlen : (Value.agg (xs.map (Value.int k)).toArray).cells.toList.length = P.cellsOf t := by rw [hct]; simp [Value.cells, hl]
  simp only [Value.cells] at hm hlen ⊢
  simp only [hlen, if_true, hm, Option.map_some, Option.some.injEq, Prod.mk.injEq, DataW.agg.injEq]
  refine ⟨?_, ?_⟩
  · apply List.ext_getElem?
    intro i
    rcases Nat.lt_or_ge i n with h | h
    · simp [h, show i < xs.length by omega, List.getD_eq_getElem?_getD]
    · simp [show xs.length ≤ i by omega, show n ≤ i from h]
  · simp
end

/-! ### plain numbers -/

theorem and1 (q : Int) : IntKind.wrap .i64 ((BitVec.ofInt IntKind.i64.bits q &&& BitVec.ofInt IntKind.i64.bits 1).toNat : Int) = q % 2 := by
  have h3 : (BitVec.ofInt IntKind.i64.bits 1).toNat = 1 := by decide
  have h2 : ((BitVec.ofInt IntKind.i64.bits q).toNat : Int) = q % 18446744073709551616 := by
    have : IntKind.i64.bits = 64 := rfl
    rw [this, BitVec.toNat_ofInt]
    have h : (((2 ^ 64 : Nat)) : Int) = 18446744073709551616 := by decide
    rw [h]
    omega
  have hm : ((BitVec.ofInt IntKind.i64.bits q &&& BitVec.ofInt IntKind.i64.bits 1).toNat : Int) = q % 2 := by
    rw [BitVec.toNat_and, h3, Nat.and_one_is_mod]
    omega
  rw [hm]
  exact wrap_in _ _ (by simp [klo]; omega) (by simp [khi]; omega)

/-- what is cut at 32 bits -/
def satZ (m : Int) : Int := if m < -2147483648 then -2147483648 else if 2147483647 < m then 2147483647 else m

theorem sat_eq (k : IntKind) (m : Int) : BO.ev .min k (BO.ev .max k m (-2147483648)) 2147483647 = satZ m := by
  simp only [BO.ev, satZ]
  split <;> split <;> (try split) <;> omega
theorem satZ_id {m : Int} (h1 : -2147483648 ≤ m) (h2 : m ≤ 2147483647) : satZ m = m := by
  unfold satZ; split <;> (try split) <;> omega
theorem satZ_bd (m : Int) : -2147483648 ≤ satZ m ∧ satZ m ≤ 2147483647 := by
  unfold satZ; split <;> (try split) <;> omega

theorem mulqZ_eq (x y : Int) : mulqZ x y = satZ ((x * y + 536870912) / 1073741824) := by
  unfold mulqZ
  rw [sat_eq]
  congr 1
  generalize x * y = p
  have e1 : BO.ev .shr .i64 p 30 = p / 1073741824 := by
    simp only [BO.ev]
    have : Nat.min (Int.toNat 30) IntKind.i64.bits = 30 := rfl
    rw [this, Int.fdiv_eq_ediv_of_nonneg _ (by decide)]; rfl
  have e2 : BO.ev .shr .i64 p 29 = p / 536870912 := by
    simp only [BO.ev]
    have : Nat.min (Int.toNat 29) IntKind.i64.bits = 29 := rfl
    rw [this, Int.fdiv_eq_ediv_of_nonneg _ (by decide)]; rfl
  have e3 : BO.ev .and .i64 (p / 536870912) 1 = (p / 536870912) % 2 := and1 _
  rw [e1, e2, e3]
  simp only [BO.ev]
  omega

theorem mulq_one_l {x : Int} (h1 : -2147483648 ≤ x) (h2 : x ≤ 2147483647) : mulqZ 1073741824 x = x := by
  rw [mulqZ_eq, show (1073741824 * x + 536870912) / 1073741824 = x by omega, satZ_id h1 h2]
theorem mulq_one_r {x : Int} (h1 : -2147483648 ≤ x) (h2 : x ≤ 2147483647) : mulqZ x 1073741824 = x := by
  rw [mulqZ_eq, show (x * 1073741824 + 536870912) / 1073741824 = x by omega, satZ_id h1 h2]
theorem mulq_zero_l (x : Int) : mulqZ 0 x = 0 := by
  rw [mulqZ_eq, Int.zero_mul]; rfl
theorem mulq_zero_r (x : Int) : mulqZ x 0 = 0 := by
  rw [mulqZ_eq, Int.mul_zero]; rfl

end Go.Eng
