/-
  Parts of the engine, a program's symbolic run, proved sound; and of plain laws.
-/
import Derived.Test.YteimodjkllldlacGp2
set_option linter.unusedVariables false
set_option linter.unusedSimpArgs false
/-!  -/
noncomputable section
namespace Go.Eng
theorem swp_rd {q i k : Int} (i0 : 0 ≤ i) (k0 : 0 ≤ k) (j : Int) (j0 : 0 ≤ j) : IntKind.wrap .i64 (rdZ (swpZ q i k) j) = if j = k then IntKind.wrap .i64 (rdZ q i) else if j = i then IntKind.wrap .i64 (rdZ q k) else IntKind.wrap .i64 (rdZ q j) := by
 unfold swpZ
 rw [qQh]
 by_cases e : j = k
 ·subst e; rw [if_pos rfl, if_pos rfl, w64_id]
 ·rw [if_neg (by omega), if_neg e, qQh]
  by_cases g : j = i
  ·subst g; rw [if_pos rfl, if_pos rfl, w64_id]
  ·rw [if_neg (by omega), if_neg g]
def inP (q n v : Int) : Prop := ∃ k : Int, 0 ≤ k ∧ k < n ∧ IntKind.wrap .i64 (rdZ q k) = v
theorem inP_sw1 {q n i k v : Int} (i0 : 0 ≤ i) (i1 : i < n) (k0 : 0 ≤ k) (k1 : k < n) (h : inP q n v) : inP (swpZ q i k) n v := by
 obtain ⟨j, j0, j1, rfl⟩ := h
 by_cases e : j = i
 ·subst e; exact ⟨k, k0, k1, by rw [swp_rd j0 k0 k k0, if_pos rfl]⟩
 ·by_cases g : j = k
  ·subst g
   refine ⟨i, i0, i1, ?_⟩
   rw [swp_rd i0 j0 i i0, if_neg (fun x => e x.symm), if_pos rfl]
  ·exact ⟨j, j0, j1, by rw [swp_rd i0 k0 j j0, if_neg g, if_neg e]⟩
theorem inP_sw2 {q n i k v : Int} (i0 : 0 ≤ i) (i1 : i < n) (k0 : 0 ≤ k) (k1 : k < n) (h : inP (swpZ q i k) n v) : inP q n v := by
 obtain ⟨j, j0, j1, rfl⟩ := h
 rw [swp_rd i0 k0 j j0]
 by_cases e : j = k
 ·rw [if_pos e]; exact ⟨i, i0, i1, rfl⟩
 ·rw [if_neg e]
  by_cases g : j = i
  ·rw [if_pos g]; exact ⟨k, k0, k1, rfl⟩
  ·rw [if_neg g]; exact ⟨j, j0, j1, rfl⟩
theorem inP_swp {q n i k v : Int} (i0 : 0 ≤ i) (i1 : i < n) (k0 : 0 ≤ k) (k1 : k < n) : inP (swpZ q i k) n v ↔ inP q n v := ⟨inP_sw2 i0 i1 k0 k1, inP_sw1 i0 i1 k0 k1⟩
theorem up_zero (q : Int) : hupF q 0 = q := by rw [hupF, dif_pos rfl]
theorem up_step {q : Int} {j : Nat} (h : j ≠ 0) (hl : IntKind.wrap .i64 (rdZ q j) < IntKind.wrap .i64 (rdZ q ((j - 1) / 2 : Nat))) : hupF q j = hupF (swpZ q ((j - 1) / 2 : Nat) j) ((j - 1) / 2) := by
 rw [hupF, dif_neg h, if_pos hl]
theorem up_stop {q : Int} {j : Nat} (h : j ≠ 0) (hl : ¬ IntKind.wrap .i64 (rdZ q j) < IntKind.wrap .i64 (rdZ q ((j - 1) / 2 : Nat))) : hupF q j = q := by
 rw [hupF, dif_neg h, if_neg hl]
theorem inP_up {n v : Int} : ∀ (j : Nat) (q : Int), (j : Int) < n → (inP (hupF q j) n v ↔ inP q n v) := by
 intro j
 induction j using Nat.strongRecOn with
 | ind j ih =>
  intro q hj
  by_cases e : j = 0
  ·subst e; rw [up_zero]
  ·by_cases hl : IntKind.wrap .i64 (rdZ q j) < IntKind.wrap .i64 (rdZ q ((j - 1) / 2 : Nat))
   ·rw [up_step e hl, ih _ (by omega) _ (by omega)]
    exact inP_swp (by omega) (by omega) (by omega) hj
   ·rw [up_stop e hl]
theorem lo_bd (q : Int) {n i : Nat} (h : 2 * i + 1 < n) : i < hloF q n i ∧ hloF q n i < n := by
 unfold hloF; split <;> omega
theorem dn_end {q : Int} {n i : Nat} (h : n ≤ 2 * i + 1) : hdnF q n i = (q, i) := by rw [hdnF, dif_pos h]
theorem dn_step {q : Int} {n i : Nat} (h : 2 * i + 1 < n) (hl : IntKind.wrap .i64 (rdZ q (hloF q n i : Nat)) < IntKind.wrap .i64 (rdZ q i)) : hdnF q n i = hdnF (swpZ q i (hloF q n i : Nat)) n (hloF q n i) := by
 rw [hdnF, dif_neg (by omega), if_pos hl]
theorem dn_stop {q : Int} {n i : Nat} (h : 2 * i + 1 < n) (hl : ¬ IntKind.wrap .i64 (rdZ q (hloF q n i : Nat)) < IntKind.wrap .i64 (rdZ q i)) : hdnF q n i = (q, i) := by
 rw [hdnF, dif_neg (by omega), if_neg hl]
theorem dn_in {n : Nat} : ∀ (m i : Nat) (q : Int), n - i ≤ m → i < n → (∀ v, inP (hdnF q n i).1 n v ↔ inP q n v) ∧ ∀ k : Int, (n : Int) ≤ k → IntKind.wrap .i64 (rdZ (hdnF q n i).1 k) = IntKind.wrap .i64 (rdZ q k)
 | 0, i, q, h, hi => by omega
 | m + 1, i, q, h, hi => by
  by_cases e : n ≤ 2 * i + 1
  ·rw [dn_end e]; exact ⟨fun _ => Iff.rfl, fun _ _ => rfl⟩
  ·obtain ⟨l0, l1⟩ := lo_bd q (i := i) (n := n) (by omega)
   by_cases hl : IntKind.wrap .i64 (rdZ q (hloF q n i : Nat)) < IntKind.wrap .i64 (rdZ q i)
   ·rw [dn_step (by omega) hl]
    obtain ⟨h1, h2⟩ := dn_in m (hloF q n i) (swpZ q i (hloF q n i : Nat)) (by omega) l1
    refine ⟨fun v => (h1 v).trans (inP_swp (by omega) (by omega) (by omega) (by omega)), fun k hk => ?_⟩
    rw [h2 k hk, swp_rd (by omega) (by omega) k (by omega), if_neg (by omega), if_neg (by omega)]
   ·rw [dn_stop (by omega) hl]; exact ⟨fun _ => Iff.rfl, fun _ _ => rfl⟩
theorem pop_in {q n : Int} (n0 : 0 < n) : (IntKind.wrap .i64 (rdZ (hdnZ (swpZ q 0 (n - 1)) (n - 1)) (n - 1)) = IntKind.wrap .i64 (rdZ q 0)) ∧
  (∀ v, inP q n v → v = IntKind.wrap .i64 (rdZ q 0) ∨ inP (hdnZ (swpZ q 0 (n - 1)) (n - 1)) (n - 1) v) ∧ ∀ v, inP (hdnZ (swpZ q 0 (n - 1)) (n - 1)) (n - 1) v → inP q n v := by
 have hd : (∀ v, inP (hdnZ (swpZ q 0 (n - 1)) (n - 1)) (n - 1) v ↔ inP (swpZ q 0 (n - 1)) (n - 1) v) ∧ IntKind.wrap .i64 (rdZ (hdnZ (swpZ q 0 (n - 1)) (n - 1)) (n - 1)) = IntKind.wrap .i64 (rdZ (swpZ q 0 (n - 1)) (n - 1)) := by
  by_cases e : n = 1
  ·subst e
   have : hdnZ (swpZ q 0 (1 - 1)) (1 - 1) = swpZ q 0 (1 - 1) := by unfold hdnZ; rw [dn_end (by decide)]
   rw [this]; exact ⟨fun _ => Iff.rfl, rfl⟩
  ·obtain ⟨h1, h2⟩ := dn_in (n := (n - 1).toNat) (n - 1).toNat 0 (swpZ q 0 (n - 1)) (by omega) (by omega)
   rw [show (((n - 1).toNat : Nat) : Int) = n - 1 by omega] at h1 h2
   exact ⟨h1, h2 _ (by omega)⟩
 have hs : IntKind.wrap .i64 (rdZ (swpZ q 0 (n - 1)) (n - 1)) = IntKind.wrap .i64 (rdZ q 0) := by rw [swp_rd (by decide) (by omega) _ (by omega), if_pos rfl]
 refine ⟨hd.2.trans hs, fun v hv => ?_, fun v hv => ?_⟩
 ·obtain ⟨k, k0, k1, hk⟩ := (inP_swp (i := 0) (k := n - 1) (by decide) n0 (by omega) (by omega)).2 hv
  by_cases e : k = n - 1
  ·subst e; exact .inl (hk.symm.trans hs)
  ·exact .inr ((hd.1 v).2 ⟨k, k0, by omega, hk⟩)
 ·obtain ⟨k, k0, k1, hk⟩ := (hd.1 v).1 hv
  exact (inP_swp (i := 0) (k := n - 1) (by decide) n0 (by omega) (by omega)).1 ⟨k, k0, by omega, hk⟩
theorem push_in {q n x : Int} (n0 : 0 ≤ n) (hx : IntKind.wrap .i64 x = x) (v : Int) : inP (hupZ (updZ q n x) n) (n + 1) v ↔ inP q n v ∨ v = x := by
 unfold hupZ
 rw [inP_up n.toNat _ (by omega)]
 constructor
 ·rintro ⟨k, k0, k1, rfl⟩
  rw [qQh]
  by_cases e : k = n
  ·subst e; rw [if_pos rfl]; exact .inr hx
  ·rw [if_neg (by omega)]; exact .inl ⟨k, k0, by omega, rfl⟩
 ·rintro (⟨k, k0, k1, rfl⟩ | rfl)
  ·exact ⟨k, k0, by omega, by rw [qQh, if_neg (by omega)]⟩
  ·exact ⟨n, n0, by omega, by rw [qQh, if_pos rfl]; exact hx⟩
end Go.Eng
end
/-!  -/
noncomputable section
namespace Go.Eng
theorem ofInt_wrap (x : Int) : BitVec.ofInt 32 (IntKind.wrap .u32 x) = BitVec.ofInt 32 x := by
 apply BitVec.eq_of_toInt_eq
 rw [BitVec.toInt_ofInt, BitVec.toInt_ofInt]
 have : IntKind.wrap .u32 x = x % 4294967296 := by simp [IntKind.wrap, IntKind.bits, IntKind.signed]
 rw [this]
 have h32 : (2 : Nat) ^ 32 = 4294967296 := by decide
 rw [h32]
 unfold Int.bmod
 simp
theorem ofInt_nat (v : BitVec 32) : BitVec.ofInt 32 (v.toNat : Int) = v := by
 apply BitVec.eq_of_toNat_eq
 rw [BitVec.toNat_ofInt]
 have h := v.isLt
 have h32 : (2 : Nat) ^ 32 = 4294967296 := by decide
 rw [h32] at *
 omega
theorem qKk (x r : Int) : bitP (IntKind.wrap .u32 x) r ↔ bitP x r := by unfold bitP; rw [ofInt_wrap]
theorem bit_bv (v : BitVec 32) (r : Int) : bitP (IntKind.wrap .u32 (v.toNat : Int)) r ↔ v.getLsbD r.toNat = true := by
 rw [qKk]; unfold bitP; rw [ofInt_nat]
theorem bit_or (a b r : Int) : bitP (orW a b) r ↔ bitP a r ∨ bitP b r := by
 unfold orW
 rw [bit_bv, BitVec.getLsbD_or, Bool.or_eq_true]; rfl
theorem qKx (r : Int) : ¬ bitP 0 r := by unfold bitP; simp
theorem bits_ext {a b : Int} (h : ∀ r : Int, 0 ≤ r → r < 32 → (bitP a r ↔ bitP b r)) : IntKind.wrap .u32 a = IntKind.wrap .u32 b := by
 have e : BitVec.ofInt 32 a = BitVec.ofInt 32 b := by
  apply BitVec.eq_of_getLsbD_eq
  intro i hi
  have := h i (by omega) (by omega)
  unfold bitP at this
  rw [Int.toNat_natCast] at this
  exact Bool.eq_iff_iff.2 this
 have wn : ∀ x : Int, IntKind.wrap .u32 x = ((BitVec.ofInt 32 x).toNat : Int) := fun x => by
  rw [BitVec.toNat_ofInt]
  have : IntKind.wrap .u32 x = x % 4294967296 := by simp [IntKind.wrap, IntKind.bits, IntKind.signed]
  rw [this]
  have h32 : (2 : Nat) ^ 32 = 4294967296 := by decide
  rw [h32]; omega
 rw [wn, wn, e]
theorem one_bit {d : Int} (d0 : 0 ≤ d) (d1 : d < 32) (r : Int) (r0 : 0 ≤ r) (r1 : r < 32) : bitP (IntKind.wrap .u32 (1 * 2 ^ (Nat.min d.toNat 32))) r ↔ r = d := by
 rw [qKk]
 obtain ⟨k, rfl⟩ : ∃ k : Nat, d = k := ⟨d.toNat, by omega⟩
 obtain ⟨j, rfl⟩ : ∃ j : Nat, r = j := ⟨r.toNat, by omega⟩
 rw [Int.toNat_natCast, show Nat.min k 32 = k from Nat.min_eq_left (by omega)]
 unfold bitP
 rw [Int.toNat_natCast]
 have : BitVec.ofInt 32 (1 * 2 ^ k) = BitVec.ofNat 32 (2 ^ k) := by
  rw [Int.one_mul]
  have : ((2 : Int) ^ k) = ((2 ^ k : Nat) : Int) := by simp
  rw [this, BitVec.ofInt_natCast]
 rw [this, BitVec.getLsbD_ofNat, Nat.testBit_two_pow]
 simp only [Bool.and_eq_true, decide_eq_true_eq]
 omega
theorem and_one {s d : Int} (d0 : 0 ≤ d) (d1 : d < 32) : IntKind.wrap .u32 ((BitVec.ofInt 32 s &&& BitVec.ofInt 32 (IntKind.wrap .u32 (1 * 2 ^ (Nat.min d.toNat 32)))).toNat : Int) = 0 ↔ ¬ bitP s d := by
 constructor
 ·intro h hb
  have h1 : bitP (IntKind.wrap .u32 ((BitVec.ofInt 32 s &&& BitVec.ofInt 32 (IntKind.wrap .u32 (1 * 2 ^ (Nat.min d.toNat 32)))).toNat : Int)) d := by
   rw [bit_bv, BitVec.getLsbD_and, Bool.and_eq_true]
   exact ⟨hb, (one_bit d0 d1 d d0 d1).2 rfl⟩
  rw [h] at h1
  exact qKx d h1
 ·intro hb
  have := bits_ext (a := IntKind.wrap .u32 ((BitVec.ofInt 32 s &&& BitVec.ofInt 32 (IntKind.wrap .u32 (1 * 2 ^ (Nat.min d.toNat 32)))).toNat : Int)) (b := 0) fun r r0 r1 => by
   rw [bit_bv, BitVec.getLsbD_and, Bool.and_eq_true]
   constructor
   ·rintro ⟨h1, h2⟩
    have h2 : bitP (IntKind.wrap .u32 (1 * 2 ^ (Nat.min d.toNat 32))) r := h2
    rw [one_bit d0 d1 r r0 r1] at h2
    subst h2; exact absurd h1 hb
   ·intro h; exact absurd h (qKx r)
  rw [wrap_wrap .u32 .u32 _ (by decide)] at this
  rw [this]; decide
theorem bit_not {s d : Int} (d0 : 0 ≤ d) (d1 : d < 32) (r : Int) (r0 : 0 ≤ r) (r1 : r < 32) : bitP (IntKind.wrap .u32 ((BitVec.ofInt 32 s &&& ~~~(BitVec.ofInt 32 (IntKind.wrap .u32 (1 * 2 ^ (Nat.min d.toNat 32))))).toNat : Int)) r ↔ bitP s r ∧ r ≠ d := by
 rw [bit_bv, BitVec.getLsbD_and, Bool.and_eq_true, BitVec.getLsbD_not, Bool.and_eq_true, Bool.not_eq_true']
 have h := one_bit d0 d1 r r0 r1
 unfold bitP at h ⊢
 simp only [decide_eq_true_eq]
 constructor
 ·rintro ⟨h1, _, h2⟩
  exact ⟨h1, fun e => by rw [h.2 e] at h2; exact absurd h2 (by decide)⟩
 ·rintro ⟨h1, h2⟩
  refine ⟨h1, by omega, ?_⟩
  cases hb : (BitVec.ofInt 32 (IntKind.wrap .u32 (1 * 2 ^ (Nat.min d.toNat 32)))).getLsbD r.toNat with
  | false => rfl
  | true => exact absurd (h.1 hb) h2
theorem bit_one0 {d : Int} (d0 : 0 ≤ d) (d1 : d < 32) (r : Int) (r0 : 0 ≤ r) (r1 : r < 32) : bitP (IntKind.wrap .u32 ((BitVec.ofInt 32 (IntKind.wrap .u32 (1 * 2 ^ (Nat.min d.toNat 32))) &&& ~~~(BitVec.ofInt 32 1)).toNat : Int)) r ↔ r = d ∧ d ≠ 0 := by
 have h1 : BitVec.ofInt 32 1 = BitVec.ofInt 32 (IntKind.wrap .u32 (1 * 2 ^ (Nat.min (0 : Int).toNat 32))) := by decide
 rw [h1]
 have h := bit_not (s := IntKind.wrap .u32 (1 * 2 ^ (Nat.min d.toNat 32))) (d := 0) (by decide) (by decide) r r0 r1
 rw [h, one_bit d0 d1 r r0 r1]
 clear h h1
 constructor
 ·rintro ⟨g1, g2⟩; subst g1; exact ⟨rfl, g2⟩
 ·rintro ⟨g1, g2⟩; subst g1; exact ⟨rfl, g2⟩
theorem sum_bit (p : Nat → Bool) : ∀ k : Nat, 0 ≤ sumP p k ∧ sumP p k < 2 ^ k ∧ (∀ r : Nat, r < k → ((sumP p k).toNat.testBit r = p r))
 | 0 => ⟨Int.le_refl _, by show (0 : Int) < 2 ^ 0; decide, fun r h => absurd h (Nat.not_lt_zero _)⟩
 | k + 1 => by
  obtain ⟨h0, h1, h2⟩ := sum_bit p k
  have hp : (2 : Int) ^ (k + 1) = 2 * 2 ^ k := by rw [Int.pow_succ, Int.mul_comm]
  have hc : ((2 ^ k : Nat) : Int) = (2 : Int) ^ k := by simp
  by_cases e : p k = true
  ·have es : sumP p (k + 1) = sumP p k + 2 ^ k := by rw [sumP, if_pos e]
   rw [es]
   refine ⟨by omega, by omega, fun r hr => ?_⟩
   have : (sumP p k + 2 ^ k).toNat = 2 ^ k + (sumP p k).toNat := by omega
   rw [this]
   by_cases g : r = k
   ·subst g
    rw [Nat.testBit_two_pow_add_eq, Nat.testBit_lt_two_pow (by omega), e]; rfl
   ·rw [Nat.testBit_two_pow_add_gt (by omega)]; exact h2 r (by omega)
  ·have es : sumP p (k + 1) = sumP p k := by rw [sumP, if_neg e, Int.add_zero]
   rw [es]
   refine ⟨h0, by omega, fun r hr => ?_⟩
   by_cases g : r = k
   ·subst g
    rw [Nat.testBit_lt_two_pow (by omega)]
    cases h : p r with
    | true => exact absurd h e
    | false => rfl
   ·exact h2 r (by omega)
theorem sum_bitP (p : Nat → Bool) (r : Int) (r0 : 0 ≤ r) (r1 : r < 32) : bitP (sumP p 32) r ↔ p r.toNat = true := by
 obtain ⟨h0, h1, h2⟩ := sum_bit p 32
 have := h2 r.toNat (by omega)
 unfold bitP
 have e : BitVec.ofInt 32 (sumP p 32) = BitVec.ofNat 32 (sumP p 32).toNat := by
  rw [← BitVec.ofInt_natCast]; congr 1; omega
 rw [e, BitVec.getLsbD_ofNat, this]
 simp only [Bool.and_eq_true, decide_eq_true_eq]
 constructor
 ·exact fun h => h.2
 ·exact fun h => ⟨by omega, h⟩
theorem sum_wrap (p : Nat → Bool) : IntKind.wrap .u32 (sumP p 32) = sumP p 32 := by
 obtain ⟨h0, h1, _⟩ := sum_bit p 32
 have : IntKind.wrap .u32 (sumP p 32) = sumP p 32 % 4294967296 := by simp [IntKind.wrap, IntKind.bits, IntKind.signed]
 rw [this]
 have : (2 : Int) ^ 32 = 4294967296 := by decide
 omega
end Go.Eng
end
/-!  -/
noncomputable section
namespace Go.Eng
open Classical in
theorem lvF_out (L : Lv) : ∀ (n k : Nat), n ≤ k → rdZ (lvF L n) k = rdZ 0 k
 | 0, k, h => rfl
 | n + 1, k, h => by
  rw [lvF, qQh, Int.toNat_natCast, Int.toNat_natCast, if_neg (by omega)]
  exact lvF_out L n k (by omega)
def lvV (V : Int) : Lv := ⟨fun p => IntKind.wrap .u32 (rdZ (rdZ V p) 0) ≠ 0, fun p r => bitP (IntKind.wrap .u32 (rdZ (rdZ V p) 1)) r⟩
def qv (V nc : Int) : Int := lvF (lvV V) nc.toNat
section
variable {V nc : Int}
theorem qv_re {p : Int} (p0 : 0 ≤ p) (p1 : p < nc) : bT (qv V nc) p 0 ↔ IntKind.wrap .u32 (rdZ (rdZ V p) 0) ≠ 0 := by
 unfold bT qv
 have h := lvF_at (lvV V) nc.toNat p.toNat (by omega)
 rw [show ((p.toNat : Nat) : Int) = p by omega] at h
 rw [h, (lvRow_rd (lvV V) p).1]
 by_cases e : (lvV V).re p
 ·rw [if_pos e]; exact ⟨fun _ => e, fun _ => by decide⟩
 ·rw [if_neg e]; exact ⟨fun k => absurd rfl k, fun k => absurd k e⟩
theorem qv_se {p r : Int} (p0 : 0 ≤ p) (p1 : p < nc) (r0 : 0 ≤ r) (r1 : r < 32) : bT (qv V nc) p (1 + r) ↔ bitP (rdZ (rdZ V p) 1) r := by
 unfold bT qv
 have h := lvF_at (lvV V) nc.toNat p.toNat (by omega)
 rw [show ((p.toNat : Nat) : Int) = p by omega] at h
 rw [h, (lvRow_rd (lvV V) p).2 r r0 r1, ← qKk]
 by_cases e : (lvV V).se p r
 ·rw [if_pos e]; exact ⟨fun _ => e, fun _ => by decide⟩
 ·rw [if_neg e]; exact ⟨fun k => absurd rfl k, fun k => absurd k e⟩
theorem qv_out {p f : Int} (h : nc ≤ p) (p0 : 0 ≤ p) : bT (qv V nc) p f ↔ rdZ (rdZ 0 p) f ≠ 0 := by
 unfold bT qv
 have h := lvF_out (lvV V) nc.toNat p.toNat (by omega)
 rw [show ((p.toNat : Nat) : Int) = p by omega] at h
 rw [h]
theorem qv_row {V' : Int} {p : Int} (p0 : 0 ≤ p) (h : rdZ V' p = rdZ V p) (f : Int) (f0 : 0 ≤ f) (f1 : f < 33) : bT (qv V' nc) p f ↔ bT (qv V nc) p f := by
 by_cases p1 : p < nc
 ·by_cases e : f = 0
  ·subst e; rw [qv_re p0 p1, qv_re p0 p1, h]
  ·obtain ⟨r, rfl⟩ : ∃ r, f = 1 + r := ⟨f - 1, by omega⟩
   rw [qv_se p0 p1 (by omega) (by omega), qv_se p0 p1 (by omega) (by omega), h]
 ·rw [qv_out (by omega) p0, qv_out (by omega) p0]
theorem lrv_rd {t s p : Int} (t0 : 0 ≤ t) (p0 : 0 ≤ p) : rdZ (lrvZ V t s) p = if p = t then qQq 1 (qQq (orW (IntKind.wrap .u32 (rdZ (rdZ V t) 1)) s) 0) else rdZ V p := by
 unfold lrvZ
 rw [qQh]
 by_cases e : p = t
 ·rw [if_pos (by rw [e]), if_pos e]
 ·rw [if_neg (by omega), if_neg e]
theorem qXr (x y : Int) : rdZ (qQq x (qQq y 0)) 0 = x ∧ rdZ (qQq x (qQq y 0)) 1 = y := by have h := qXp [x, y]; exact ⟨h 0, h 1⟩
theorem lrv_up {t s : Int} (t0 : 0 ≤ t) (t1 : t < nc) : UpQ (qv V nc) (qv (lrvZ V t s) nc) t (bitP s) := by
 have hr := lrv_rd (V := V) (s := s) t0 t0
 rw [if_pos rfl] at hr
 refine ⟨fun p f p0 hp f0 f1 => qv_row p0 (by rw [lrv_rd t0 p0, if_neg hp]) f f0 f1, ?_, fun r r0 r1 => ?_⟩
 ·rw [qv_re t0 t1, hr, (qXr _ _).1]; decide
 ·rw [qv_se t0 t1 r0 r1, qv_se t0 t1 r0 r1, hr, (qXr _ _).2, bit_or, qKk]
theorem lrv_same {t s : Int} {z : Int} (z0 : rdZ z 0 = s) (z1 : rdZ z 1 = V) (t0 : 0 ≤ t) (t1 : t < nc) (h : lrcZ nc t z = 0) : UpQ (qv V nc) (qv V nc) t (bitP s) := by
 unfold lrcZ at h
 rw [z0, z1] at h
 have h : IntKind.wrap .u32 (rdZ (rdZ V t) 0) = 1 ∧ IntKind.wrap .u32 (rdZ (rdZ V t) 1) = orW (IntKind.wrap .u32 (rdZ (rdZ V t) 1)) s := Classical.byContradiction fun g => by rw [if_pos ⟨t1, g⟩] at h; exact absurd h (by decide)
 refine ⟨fun p f p0 hp f0 f1 => Iff.rfl, ?_, fun r r0 r1 => ?_⟩
 ·rw [qv_re t0 t1, h.1]; decide
 ·rw [qv_se t0 t1 r0 r1]
  have : bitP (rdZ (rdZ V t) 1) r ↔ bitP (rdZ (rdZ V t) 1) r ∨ bitP s r := by
   have k := bit_or (IntKind.wrap .u32 (rdZ (rdZ V t) 1)) s r
   rw [← h.2, qKk] at k
   exact k
  exact this
theorem lrc_one {t z : Int} (h : lrcZ nc t z ≠ 0) : t < nc ∧ ¬ (IntKind.wrap .u32 (rdZ (rdZ (rdZ z 1) t) 0) = 1 ∧ IntKind.wrap .u32 (rdZ (rdZ (rdZ z 1) t) 1) = orW (IntKind.wrap .u32 (rdZ (rdZ (rdZ z 1) t) 1)) (rdZ z 0)) :=
 Classical.byContradiction fun g => h (by unfold lrcZ; rw [if_neg g])
theorem lrv_new {t s z : Int} (z0 : rdZ z 0 = s) (z1 : rdZ z 1 = V) (t0 : 0 ≤ t) (h : lrcZ nc t z ≠ 0) (wf : IntKind.wrap .u32 (rdZ (rdZ V t) 0) = 0 ∨ IntKind.wrap .u32 (rdZ (rdZ V t) 0) = 1) :
  ∃ f : Int, 0 ≤ f ∧ f < 33 ∧ ¬ (bT (qv (lrvZ V t s) nc) t f ↔ bT (qv V nc) t f) := by
 obtain ⟨t1, h⟩ := lrc_one h
 rw [z0, z1] at h
 have hu := lrv_up (V := V) (s := s) t0 t1
 refine Classical.byContradiction fun g => h ?_
 have g : ∀ f : Int, 0 ≤ f → f < 33 → (bT (qv (lrvZ V t s) nc) t f ↔ bT (qv V nc) t f) := fun f f0 f1 => Classical.byContradiction fun k => g ⟨f, f0, f1, k⟩
 constructor
 ·have := (g 0 (by decide) (by decide)).1 hu.re
  rw [qv_re t0 t1] at this
  exact wf.resolve_left this
 ·have := bits_ext (a := IntKind.wrap .u32 (rdZ (rdZ V t) 1)) (b := orW (IntKind.wrap .u32 (rdZ (rdZ V t) 1)) s) fun r r0 r1 => by
   rw [bit_or, qKk]
   constructor
   ·exact .inl
   ·rintro (k | k)
    ·exact k
    ·exact (qv_se t0 t1 r0 r1).1 ((g (1 + r) (by omega) (by omega)).1 ((hu.se r r0 r1).2 (.inr k)))
  rw [wrap_wrap .u32 .u32 _ (by decide)] at this
  exact this.trans (by unfold orW; exact wrap_wrap .u32 .u32 _ (by decide))
end
section
variable {w nc nr cS : Int}
theorem closed_up {q q' p t : Int} {Y : Int → Prop} (hu : UpQ q q' t Y) (p0 : 0 ≤ p) (p1 : p < nc) (hs : ∀ f, 0 ≤ f → f < 33 → (bT q' p f ↔ bT q p f)) (hc : qKv w nc nr cS q p) : qKv w nc nr cS q' p := by
 intro hr h5 x hn x0 x1
 obtain ⟨_, _, ⟨a0, a1⟩, ⟨b0, b1⟩, _⟩ := dec_in (rdZ w p) h5
 obtain ⟨h1, h2⟩ := hc ((hs 0 (by decide) (by decide)).1 hr) h5 x hn x0 x1
 refine ⟨qXv hu x0 (by decide) (by decide) h1, fun r r0 r1 hb => qXv hu x0 (by omega) (by omega) (h2 r r0 r1 ?_)⟩
 exact behS_32 a0 a1 b0 b1 (fun s s0 s1 k => (hs (1 + s) (by omega) (by omega)).1 k) r0 r1 hb
structure Wk (w nc nr cS V W n : Int) (X : Int → Prop) : Prop where
 wf : ∀ p, 0 ≤ p → p < nc → IntKind.wrap .u32 (rdZ (rdZ V p) 0) = 0 ∨ IntKind.wrap .u32 (rdZ (rdZ V p) 0) = 1
 be : Below w nc nr cS (qv V nc)
 st : 0 < nc → bT (qv V nc) 0 0
 n0 : 0 ≤ n
 n1 : n ≤ (cntP (qv V nc) nc.toNat : Int)
 pl : ∀ v, inP W n v → 0 ≤ v ∧ v < nc ∧ bT (qv V nc) v 0
 cl : ∀ p, 0 ≤ p → p < nc → bT (qv V nc) p 0 → ¬ inP W n p → ¬ X p → qKv w nc nr cS (qv V nc) p
def mWk (V nc n : Int) : Nat := 2 * (33 * nc.toNat - cntP (qv V nc) nc.toNat) + n.toNat
variable {V W n : Int} {X : Int → Prop}
theorem wk_bd (h : Wk w nc nr cS V W n X) (hc : nc ≤ 16384) : 0 ≤ n ∧ n ≤ 540672 := by
 have := cntP_le (qv V nc) nc.toNat
 have := h.n1
 have := h.n0
 omega
theorem wk_pop (h : Wk w nc nr cS V W n fun _ => False) (n0 : 0 < n) : Wk w nc nr cS V (hdnZ (swpZ W 0 (n - 1)) (n - 1)) (n - 1) (fun p => p = IntKind.wrap .i64 (rdZ W 0)) ∧ mWk V nc (n - 1) < mWk V nc n ∧
  0 ≤ IntKind.wrap .i64 (rdZ W 0) ∧ IntKind.wrap .i64 (rdZ W 0) < nc ∧ bT (qv V nc) (IntKind.wrap .i64 (rdZ W 0)) 0 ∧ IntKind.wrap .i64 (rdZ (hdnZ (swpZ W 0 (n - 1)) (n - 1)) (n - 1)) = IntKind.wrap .i64 (rdZ W 0) := by
 obtain ⟨p1, p2, p3⟩ := pop_in (q := W) n0
 have hx := h.pl _ ⟨0, by decide, n0, rfl⟩
 refine ⟨⟨h.wf, h.be, h.st, by omega, by have := h.n1; omega, fun v hv => h.pl v (p3 v hv), fun p q0 q1 hr hn hX => h.cl p q0 q1 hr (fun k => ?_) (fun k => k)⟩, by unfold mWk; omega, hx.1, hx.2.1, hx.2.2, p1⟩
 rcases p2 p k with e | e
 ·exact hX e
 ·exact hn e
theorem wk_reach {t s z : Int} (h : Wk w nc nr cS V W n X) (hc : nc ≤ 16384) (z0 : rdZ z 0 = s) (z1 : rdZ z 1 = V) (t0 : 0 ≤ t) (hl : lrcZ nc t z ≠ 0)
  (hb : Below w nc nr cS (qv (lrvZ V t s) nc)) : Wk w nc nr cS (lrvZ V t s) (hupZ (updZ W n t) n) (n + 1) X ∧ mWk (lrvZ V t s) nc (n + 1) < mWk V nc n := by
 obtain ⟨t1, _⟩ := lrc_one hl
 have hu := lrv_up (V := V) (s := s) t0 t1
 have hm := up_more hu (n := nc.toNat) t0 (by omega) (lrv_new z0 z1 t0 hl (h.wf t t0 t1))
 have hle := cntP_le (qv (lrvZ V t s) nc) nc.toNat
 have hw : IntKind.wrap .i64 t = t := w64 (by omega) (by omega)
 have hn0 := h.n0
 refine ⟨⟨fun p p0 p1 => ?_, hb, fun k => qXv hu (by decide) (by decide) (by decide) (h.st k), by omega, by have := h.n1; omega, fun v hv => ?_, fun p p0 p1 hr hn hX => ?_⟩, by unfold mWk; omega⟩
 ·rw [lrv_rd t0 p0]
  by_cases e : p = t
  ·rw [if_pos e, (qXr _ _).1]; exact .inr (by decide)
  ·rw [if_neg e]; exact h.wf p p0 p1
 ·rcases (push_in hn0 hw v).1 hv with k | k
  ·obtain ⟨v0, v1, v2⟩ := h.pl v k
   exact ⟨v0, v1, qXv hu v0 (by decide) (by decide) v2⟩
  ·rw [k]; exact ⟨t0, t1, hu.re⟩
 ·have ht : p ≠ t := fun e => hn ((push_in hn0 hw p).2 (.inr e))
  have hs : ∀ f, 0 ≤ f → f < 33 → (bT (qv (lrvZ V t s) nc) p f ↔ bT (qv V nc) p f) := fun f f0 f1 => hu.oth p f p0 ht f0 f1
  exact closed_up hu p0 p1 hs (h.cl p p0 p1 ((hs 0 (by decide) (by decide)).1 hr) (fun k => hn ((push_in hn0 hw p).2 (.inl k))) hX)
end
end Go.Eng
end
/-!  -/
noncomputable section
namespace Go.Eng
section
variable {w nc nr cS : Int}
def behAt (w nr cS p : Int) (S : Int → Prop) (r : Int) : Prop := behS nr cS (decZ (IntKind.wrap .u32 (rdZ w p)) 0) (decZ (IntKind.wrap .u32 (rdZ w p)) 1) (decZ (IntKind.wrap .u32 (rdZ w p)) 2) (decZ (IntKind.wrap .u32 (rdZ w p)) 3) (decZ (IntKind.wrap .u32 (rdZ w p)) 4) S r
def nxtAt (w nr p t : Int) : Prop := nxtP nr (decZ (IntKind.wrap .u32 (rdZ w p)) 0) (decZ (IntKind.wrap .u32 (rdZ w p)) 2) (decZ (IntKind.wrap .u32 (rdZ w p)) 4) p t
structure Ps (w nc nr cS p V0 : Int) (m : Nat) (V W n : Int) : Prop where
 wk : Wk w nc nr cS V W n (fun x => x = p)
 row : inP W n p ∨ ∀ f, 0 ≤ f → f < 33 → (bT (qv V nc) p f ↔ bT (qv V0 nc) p f)
 ms : mWk V nc n ≤ m
def Dn (nc s V t : Int) : Prop := t < nc → bT (qv V nc) t 0 ∧ ∀ r, 0 ≤ r → r < 32 → bitP s r → bT (qv V nc) t (1 + r)
variable {p V0 V W n s : Int} {m : Nat}
theorem ps_start (h : Wk w nc nr cS V W n (fun x => x = p)) : Ps w nc nr cS p V (mWk V nc n) V W n := ⟨h, .inr fun _ _ _ => Iff.rfl, Nat.le_refl _⟩
theorem ps_reach (h : Ps w nc nr cS p V0 m V W n) (hc : nc ≤ 16384) (p0 : 0 ≤ p) (p1 : p < nc) (b0 : Below w nc nr cS (qv V0 nc)) (hr : bT (qv V0 nc) p 0) (h5 : decZ (IntKind.wrap .u32 (rdZ w p)) 5 = 0)
  (hY : ∀ r, 0 ≤ r → r < 32 → bitP s r → behAt w nr cS p (fun r => bT (qv V0 nc) p (1 + r)) r) {t z : Int} (z0 : rdZ z 0 = s) (z1 : rdZ z 1 = V) (t0 : 0 ≤ t) (hn : nxtAt w nr p t) :
  (lrcZ nc t z = 0 → Dn nc s V t) ∧ (lrcZ nc t z ≠ 0 → Ps w nc nr cS p V0 m (lrvZ V t s) (hupZ (updZ W n t) n) (n + 1) ∧ Dn nc s (lrvZ V t s) t ∧ ∀ x, 0 ≤ x → Dn nc s V x → Dn nc s (lrvZ V t s) x) := by
 refine ⟨fun hl t1 => ?_, fun hl => ?_⟩
 ·have hu := lrv_same z0 z1 t0 t1 hl
  exact ⟨hu.re, fun r r0 r1 k => (hu.se r r0 r1).2 (.inr k)⟩
 ·obtain ⟨t1, _⟩ := lrc_one hl
  have hu := lrv_up (V := V) (s := s) t0 t1
  have hb : Below w nc nr cS (qv (lrvZ V t s) nc) := below_up h.wk.be p0 p1 b0 hr h5 hn t0 t1 hu hY
  obtain ⟨h1, h2⟩ := wk_reach h.wk hc z0 z1 t0 hl hb
  have hw : IntKind.wrap .i64 t = t := w64 (by omega) (by omega)
  refine ⟨⟨h1, ?_, Nat.le_trans (Nat.le_of_lt h2) h.ms⟩, fun _ => ⟨hu.re, fun r r0 r1 k => (hu.se r r0 r1).2 (.inr k)⟩, fun x x0 hx x1 => ?_⟩
  ·by_cases e : p = t
   ·exact .inl ((push_in h.wk.n0 hw p).2 (.inr e))
   ·rcases h.row with k | k
    ·exact .inl ((push_in h.wk.n0 hw p).2 (.inl k))
    ·exact .inr fun f f0 f1 => (hu.oth p f p0 e f0 f1).trans (k f f0 f1)
  ·obtain ⟨g1, g2⟩ := hx x1
   exact ⟨qXv hu x0 (by decide) (by decide) g1, fun r r0 r1 k => qXv hu x0 (by omega) (by omega) (g2 r r0 r1 k)⟩
theorem ps_end (h : Ps w nc nr cS p V0 m V W n) (p0 : 0 ≤ p) (hd : decZ (IntKind.wrap .u32 (rdZ w p)) 5 = 0 → (∀ r, 0 ≤ r → r < 32 → behAt w nr cS p (fun r => bT (qv V0 nc) p (1 + r)) r → bitP s r) ∧ ∀ t, nxtAt w nr p t → 0 ≤ t → Dn nc s V t) :
  Wk w nc nr cS V W n (fun _ => False) := by
 refine ⟨h.wk.wf, h.wk.be, h.wk.st, h.wk.n0, h.wk.n1, h.wk.pl, fun x x0 x1 hr hn _ => ?_⟩
 by_cases e : x = p
 ·subst e
  intro hr' h5 t ht t0 t1
  obtain ⟨d1, d2⟩ := hd h5
  obtain ⟨g1, g2⟩ := d2 t ht t0 t1
  have hs := h.row.resolve_left hn
  obtain ⟨_, _, ⟨a0, a1⟩, ⟨b0, b1⟩, _⟩ := dec_in (rdZ w x) h5
  exact ⟨g1, fun r r0 r1 hb => g2 r r0 r1 (d1 r r0 r1 (behS_32 a0 a1 b0 b1 (fun q q0 q1 k => (hs (1 + q) (by omega) (by omega)).1 k) r0 r1 hb))⟩
 ·exact h.wk.cl x x0 x1 hr hn e
theorem wk_least (h : Wk w nc nr cS V W 0 (fun _ => False)) : (∀ p, 0 ≤ p → p < nc → (IntKind.wrap .u32 (rdZ (rdZ V p) 0) ≠ 0 ↔ (qQd w nc nr cS).re p)) ∧
  ∀ p r, 0 ≤ p → p < nc → 0 ≤ r → r < 32 → (bitP (rdZ (rdZ V p) 1) r ↔ (qQd w nc nr cS).se p r) := by
 have hL := lev_is h.be h.st fun p p0 p1 hr h5 => h.cl p p0 p1 hr (fun ⟨k, k0, k1, _⟩ => by omega) (fun k => k) hr h5
 refine ⟨fun p p0 p1 => ?_, fun p r p0 p1 r0 r1 => ?_⟩
 ·rw [← qv_re p0 p1]; exact ⟨h.be.re p p0 p1, fun k => least_re hL k⟩
 ·rw [← qv_se p0 p1 r0 r1]; exact ⟨h.be.se p r p0 p1 r0 r1, fun k => least_se hL k⟩
open Classical in
theorem sct_at (L : Lv) : ∀ (n k : Nat), k < n → rdZ (sctF L n) k = sumP (fun r => decide (L.se k r)) 32
 | 0, k, h => by omega
 | n + 1, k, h => by
  rw [sctF, qQh, Int.toNat_natCast, Int.toNat_natCast]
  by_cases e : k = n
  ·rw [if_pos e, e]
  ·rw [if_neg e]; exact sct_at L n k (by omega)
open Classical in
theorem sct_rd {z : Int} (z0 : rdZ z 0 = nr) (z1 : rdZ z 1 = cS) {p : Int} (p0 : 0 ≤ p) (p1 : p < nc) : IntKind.wrap .u32 (rdZ (sctZ w nc z) p) = rdZ (sctZ w nc z) p ∧ ∀ r, 0 ≤ r → r < 32 → (bitP (rdZ (sctZ w nc z) p) r ↔ (qQd w nc nr cS).se p r) := by
 unfold sctZ
 rw [z0, z1]
 have h := sct_at (qQd w nc nr cS) nc.toNat p.toNat (by omega)
 rw [show ((p.toNat : Nat) : Int) = p by omega] at h
 rw [h]
 refine ⟨sum_wrap _, fun r r0 r1 => ?_⟩
 rw [sum_bitP _ r r0 r1]
 simp only [decide_eq_true_eq]
 rw [show ((r.toNat : Nat) : Int) = r by omega]
theorem wk_row (h : Wk w nc nr cS V W 0 (fun _ => False)) {z : Int} (z0 : rdZ z 0 = nr) (z1 : rdZ z 1 = cS) {p : Int} (p0 : 0 ≤ p) (p1 : p < nc) : IntKind.wrap .u32 (rdZ (rdZ V p) 1) = rdZ (sctZ w nc z) p := by
 obtain ⟨h1, h2⟩ := sct_rd (w := w) z0 z1 p0 p1
 rw [← h1]
 exact bits_ext fun r r0 r1 => ((wk_least h).2 p r p0 p1 r0 r1).trans (h2 r r0 r1).symm
end
end Go.Eng
end
