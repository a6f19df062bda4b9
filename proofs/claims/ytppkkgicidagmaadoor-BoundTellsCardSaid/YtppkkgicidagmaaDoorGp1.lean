/-
  Parts of the engine, a program's symbolic run, proved sound; and of plain laws.
-/
import Derived.Test.YtppkkgicidagmaaDoorGu5
set_option linter.unusedVariables false
set_option linter.unusedSimpArgs false
/-!  -/
noncomputable section
namespace Go.Eng
theorem b01_eq (b : Bool) : (qQz b = 0) = (b = false) := by cases b <;> simp [qQz]
theorem iteZ_ne (t x y : Int) : iteZ t x y = if t ≠ 0 then x else y := rfl
theorem quo_pos {y k : Int} (h : 0 ≤ y) (h2 : y ≤ 9223372036854775807) (hk : 0 < k) : BO.ev .quo .i64 y k = y / k := by
 show IntKind.wrap .i64 (y.tdiv k) = _
 rw [Int.tdiv_eq_ediv_of_nonneg h]
 have h1 : 0 ≤ y / k := Int.ediv_nonneg h (by omega)
 have h3 : y / k ≤ y := Int.ediv_le_self k h
 exact qXt .i64 _ (by show (-9223372036854775808 : Int) ≤ _; omega) (by show _ ≤ (9223372036854775807 : Int); omega)
theorem rem_pos {y k : Int} (h : 0 ≤ y) : BO.ev .rem .i64 y k = y % k := by
 show y.tmod k = _
 exact Int.tmod_eq_emod_of_nonneg h
theorem w64 {x : Int} (h1 : -9223372036854775808 ≤ x) (h2 : x ≤ 9223372036854775807) : IntKind.wrap .i64 x = x := qXt .i64 _ h1 h2
theorem ob_le {a b : Int} {X : Prop} : ((a ≤ b → X) ∧ (b < a → False)) ↔ (a ≤ b ∧ X) := ⟨fun h => by by_cases g : a ≤ b; exact ⟨g, h.1 g⟩; exact (h.2 (by omega)).elim, fun h => ⟨fun _ => h.2, fun g => by omega⟩⟩
theorem ob_lt {a b : Int} {X : Prop} : ((a < b → X) ∧ (b ≤ a → False)) ↔ (a < b ∧ X) := ⟨fun h => by by_cases g : a < b; exact ⟨g, h.1 g⟩; exact (h.2 (by omega)).elim, fun h => ⟨fun _ => h.2, fun g => by omega⟩⟩
theorem ob_p {p X : Prop} : ((p → X) ∧ (¬ p → False)) ↔ (p ∧ X) := ⟨fun h => by by_cases g : p; exact ⟨g, h.1 g⟩; exact (h.2 g).elim, fun h => ⟨fun _ => h.2, fun g => g h.1⟩⟩
theorem ob_n {p X : Prop} : ((¬ p → X) ∧ (p → False)) ↔ (¬ p ∧ X) := ⟨fun h => by by_cases g : p; exact (h.2 g).elim; exact ⟨g, h.1 g⟩, fun h => ⟨fun _ => h.2, fun g => h.1 g⟩⟩
theorem nrm : (∀ b : Bool, (qQz b = 0) = (b = false)) ∧ (∀ {p : Prop} [Decidable p], (decide p = true) = p) ∧ (∀ {p : Prop} {x : Decidable p}, decide p = false ↔ ¬ p) ∧
  (∀ {a b : Int}, (a == b) = true ↔ a = b) ∧ (∀ {a b : Int}, (a == b) = false ↔ a ≠ b) ∧ (∀ {a b : Int}, (a != b) = true ↔ a ≠ b) ∧ (∀ {a b : Int}, (a != b) = false ↔ a = b) ∧
  (∀ {a b : Int}, ¬ a ≤ b ↔ b < a) ∧ (∀ {a b : Int}, ¬ a < b ↔ b ≤ a) ∧ (∀ p : Prop, (True ∧ p) = p) ∧ (∀ p : Prop, (p ∧ True) = p) ∧ (∀ t x y : Int, iteZ t x y = if t ≠ 0 then x else y) ∧
  (∀ a b : Int, (a ≠ b) = ¬ a = b) ∧ (∀ b : Bool, (¬ b = false) = (b = true)) ∧ (∀ b : Bool, (¬ b = true) = (b = false)) ∧ ((¬ True) = False) ∧ ((¬ False) = True) ∧ (∀ {p : Prop} [Decidable p], ¬ ¬ p ↔ p) ∧
  (∀ p : Prop, (True → p) ↔ p) ∧ (∀ p : Prop, (False → p) = True) ∧ (∀ p : Prop, (True ↔ p) = p) ∧ (∀ p : Prop, (p ↔ True) = p) ∧ (∀ p : Prop, (False ↔ p) = ¬ p) ∧ (∀ p : Prop, (p ↔ False) = ¬ p) ∧
  (∀ a : Int, (a = a) = True) ∧ (∀ {x : Decidable True} (t e : Int), (if True then t else e) = t) ∧ (∀ {x : Decidable False} (t e : Int), (if False then t else e) = e) :=
 ⟨b01_eq, decide_eq_true_eq, decide_eq_false_iff_not, beq_iff_eq, beq_eq_false_iff_ne, bne_iff_ne, bne_eq_false_iff_eq, Int.not_le, Int.not_lt, true_and, and_true, iteZ_ne, fun _ _ => rfl, Bool.not_eq_false, Bool.not_eq_true, not_true_eq_false, not_false_eq_true, Decidable.not_not,
  fun p => ⟨fun h => h trivial, fun h _ => h⟩, false_implies, true_iff, iff_true, false_iff, iff_false, fun a => eq_self a, fun t e => if_true t e, fun t e => if_false t e⟩
theorem nro : (∀ {a b : Int} {X : Prop}, ((a ≤ b → X) ∧ (b < a → False)) ↔ (a ≤ b ∧ X)) ∧ (∀ {a b : Int} {X : Prop}, ((a < b → X) ∧ (b ≤ a → False)) ↔ (a < b ∧ X)) ∧ (∀ {p X : Prop}, ((p → X) ∧ (¬ p → False)) ↔ (p ∧ X)) ∧ (∀ {p X : Prop}, ((¬ p → X) ∧ (p → False)) ↔ (¬ p ∧ X)) :=
 ⟨ob_le, ob_lt, ob_p, ob_n⟩
end Go.Eng
end
/-!  -/
noncomputable section
namespace Go.Eng
end Go.Eng
end
/-!  -/
noncomputable section
namespace Go.Eng
end Go.Eng
end
/-!  -/
noncomputable section
namespace Go.Eng
theorem strOf_zero {s : Int} (h : qZh s = 0) : qQv s = ⟨#[]⟩ := by
 unfold qQv; rw [h]; rfl
theorem slen_cons (n x : Int) : qZh (qQq n x) = if n < 0 then 0 else if qXj < n then qXj else n := by
 unfold qZh; rw [qQy]
theorem strOf_empty : qQv (qQq 0 (qQq 0 0)) = ⟨#[]⟩ := strOf_zero (by rw [slen_cons]; rfl)
theorem seq_empty (s : Int) : seqZ s (qQq 0 (qQq 0 0)) ≠ 0 ↔ qZh s = 0 := by
 unfold seqZ
 rw [strOf_empty]
 constructor
 ·intro h
  split at h
  ·rename_i e
   have := qZv s
   rw [e] at this
   exact this.symm
  ·exact absurd rfl h
 ·intro h
  rw [if_pos (strOf_zero h)]
  decide
def chn : List Int → Int
 | [] => 0
 | x :: l => qQq x (chn l)
theorem rd_chn : ∀ (l : List Int) (i : Nat), rdZ (chn l) i = l.getD i 0
 | [], i => by simp [chn, rdZ_nil]
 | x :: l, 0 => by rw [chn]; exact qQy _ _
 | x :: l, i + 1 => by
  rw [chn, qQi _ _ (by omega), show ((i + 1 : Nat) : Int) - 1 = (i : Nat) by omega, rd_chn l i]
  simp
end Go.Eng
end
/-!  -/
noncomputable section
namespace Go.Eng
theorem shr_ev (k : IntKind) (x s : Int) : BO.ev .shr k x s = x / 2 ^ (Nat.min s.toNat k.bits) := by
 show x.fdiv (2 ^ _) = _
 rw [Int.fdiv_eq_ediv_of_nonneg _ (Int.le_of_lt (Int.pow_pos (by decide)))]
theorem wu32 (x : Int) : IntKind.wrap .u32 x = x % 4294967296 := by simp [IntKind.wrap, IntKind.bits, IntKind.signed]
theorem sh26 (w : Int) : shrZ .u32 w 26 = w / 67108864 := shr_ev .u32 w 26
theorem sh21 (w : Int) : shrZ .u32 w 21 = w / 2097152 := shr_ev .u32 w 21
theorem sh16 (w : Int) : shrZ .u32 w 16 = w / 65536 := shr_ev .u32 w 16
theorem sh11 (w : Int) : shrZ .u32 w 11 = w / 2048 := shr_ev .u32 w 11
theorem sh0 (w : Int) : shrZ .u32 w 0 = w := by rw [show shrZ .u32 w 0 = w / 1 from shr_ev .u32 w 0]; omega
theorem sl26 (w : Int) : shlZ .u32 w 26 = w * 67108864 % 4294967296 := wu32 _
theorem sl21 (w : Int) : shlZ .u32 w 21 = w * 2097152 % 4294967296 := wu32 _
theorem sl16 (w : Int) : shlZ .u32 w 16 = w * 65536 % 4294967296 := wu32 _
theorem sl11 (w : Int) : shlZ .u32 w 11 = w * 2048 % 4294967296 := wu32 _
theorem sl0 (w : Int) : shlZ .u32 w 0 = w % 4294967296 := by rw [show shlZ .u32 w 0 = (w * 1) % 4294967296 from wu32 _, Int.mul_one]
theorem band_u32 (j : Nat) (m : Int) (hm : (BitVec.ofInt 32 m).toNat = 2 ^ j - 1) (hj : 2 ^ j ≤ 4294967296) (x : Int) : band .u32 x m = x % 4294967296 % (2 ^ j : Nat) := by
 show IntKind.wrap .u32 ((BitVec.ofInt 32 x &&& BitVec.ofInt 32 m).toNat : Int) = _
 rw [BitVec.toNat_and, hm, Nat.and_two_pow_sub_one_eq_mod, wu32, BitVec.toNat_ofInt]
 have h : (((2 ^ 32 : Nat)) : Int) = 4294967296 := by decide
 rw [h]
 have hp : 0 < 2 ^ j := Nat.two_pow_pos j
 have h1 : (((x % 4294967296).toNat % 2 ^ j : Nat) : Int) = x % 4294967296 % (2 ^ j : Nat) := by
  rw [Int.natCast_emod, Int.toNat_of_nonneg (by omega)]
 rw [h1]
 have h2 := Int.emod_lt_of_pos (x % 4294967296) (show (0 : Int) < ((2 ^ j : Nat) : Int) by omega)
 have h3 := Int.emod_nonneg (x % 4294967296) (show ((2 ^ j : Nat) : Int) ≠ 0 by omega)
 omega
theorem ba31 (x : Int) : band .u32 x 31 = x % 32 := by rw [band_u32 5 31 (by decide) (by decide)]; show x % 4294967296 % 32 = _; omega
theorem ba16 (x : Int) : band .u32 x 65535 = x % 65536 := by rw [band_u32 16 65535 (by decide) (by decide)]; show x % 4294967296 % 65536 = _; omega
theorem or_add (k : Nat) {h l : Int} (h0 : 0 ≤ h) (h1 : h < 4294967296) (l0 : 0 ≤ l) (l1 : l < (2 ^ k : Nat)) (hk : h % (2 ^ k : Nat) = 0) (hl : h + l < 4294967296) : bor .u32 h l = h + l := by
 obtain ⟨a, rfl⟩ := Int.eq_ofNat_of_zero_le h0
 obtain ⟨b, rfl⟩ := Int.eq_ofNat_of_zero_le l0
 show IntKind.wrap .u32 ((BitVec.ofInt 32 (a : Int) ||| BitVec.ofInt 32 (b : Int)).toNat : Int) = _
 rw [BitVec.toNat_or, BitVec.toNat_ofInt, BitVec.toNat_ofInt]
 have e : (((2 ^ 32 : Nat)) : Int) = 4294967296 := by decide
 rw [e]
 have e1 : ((a : Int) % 4294967296).toNat = a := by omega
 have e2 : ((b : Int) % 4294967296).toNat = b := by omega
 rw [e1, e2]
 have hb : b < 2 ^ k := by omega
 have ha : a = 2 ^ k * (a / 2 ^ k) := by
  have : a % 2 ^ k = 0 := by omega
  have := Nat.div_add_mod a (2 ^ k)
  omega
 rw [ha, ← Nat.two_pow_add_eq_or_of_lt hb, ← ha, wu32]
 omega
theorem or_0 {h : Int} (h0 : 0 ≤ h) (h1 : h < 4294967296) : bor .u32 h 0 = h := by
 rw [or_add 0 h0 h1 (by omega) (by decide) (by show h % 1 = 0; omega) (by omega)]; omega
theorem or21 {h l : Int} (h0 : 0 ≤ h) (h1 : h < 4294967296) (l0 : 0 ≤ l) (l1 : l < 67108864) (hk : h % 67108864 = 0) : bor .u32 h l = h + l := or_add 26 h0 h1 l0 l1 hk (by omega)
theorem or16 {h l : Int} (h0 : 0 ≤ h) (h1 : h < 4294967296) (l0 : 0 ≤ l) (l1 : l < 2097152) (hk : h % 2097152 = 0) : bor .u32 h l = h + l := or_add 21 h0 h1 l0 l1 hk (by omega)
theorem or11 {h l : Int} (h0 : 0 ≤ h) (h1 : h < 4294967296) (l0 : 0 ≤ l) (l1 : l < 65536) (hk : h % 65536 = 0) : bor .u32 h l = h + l := or_add 16 h0 h1 l0 l1 hk (by omega)
theorem dec_no2 {w : Int} (h0 : 0 ≤ w) (h1 : w ≤ 4294967295) (h : ¬ (1 ≤ w / 67108864 ∧ w / 67108864 ≤ 43)) : 0 = decZ w 0 ∧ 0 = decZ w 1 ∧ 0 = decZ w 2 ∧ 0 = decZ w 3 ∧ 0 = decZ w 4 ∧ 2 = decZ w 5 := by
 have e : w % 4294967296 = w := by omega
 have hd : ¬ decP w := by unfold decP; simp only; omega
 unfold decZ
 simp [e, hd]
 omega
theorem qKf {w : Int} (h0 : 0 ≤ w) (h1 : w ≤ 4294967295) (h : 1 ≤ w / 67108864 ∧ w / 67108864 ≤ 43) (hd : ¬ decP w) : 0 = decZ w 0 ∧ 0 = decZ w 1 ∧ 0 = decZ w 2 ∧ 0 = decZ w 3 ∧ 0 = decZ w 4 ∧ 3 = decZ w 5 := by
 have e : w % 4294967296 = w := by omega
 unfold decZ
 simp [e, hd, h]
theorem dec_yes {w : Int} (h0 : 0 ≤ w) (h1 : w ≤ 4294967295) (hd : decP w) : decZ w 0 = w / 67108864 ∧ decZ w 1 = w / 2097152 % 32 ∧ decZ w 2 = w / 65536 % 32 ∧ decZ w 3 = (if w / 67108864 ≤ 23 then w / 2048 % 32 else 0) ∧ decZ w 4 = decN w ∧ decZ w 5 = 0 := by
 have e : w % 4294967296 = w := by omega
 unfold decZ
 simp [e, hd]
theorem qKg {w a b c d n : Int} (h0 : 0 ≤ w) (h1 : w ≤ 4294967295) (hd : decP w) (e0 : a = w / 67108864) (e1 : b = w / 2097152 % 32) (e2 : c = w / 65536 % 32) (e3 : d = if w / 67108864 ≤ 23 then w / 2048 % 32 else 0) (e4 : n = decN w) :
  a = decZ w 0 ∧ b = decZ w 1 ∧ c = decZ w 2 ∧ d = decZ w 3 ∧ n = decZ w 4 ∧ 0 = decZ w 5 := by
 obtain ⟨g0, g1, g2, g3, g4, g5⟩ := dec_yes h0 h1 hd
 exact ⟨e0.trans g0.symm, e1.trans g1.symm, e2.trans g2.symm, e3.trans g3.symm, e4.trans g4.symm, g5.symm⟩
def I64 (x : Int) : Prop := -9223372036854775808 ≤ x ∧ x ≤ 9223372036854775807
def Mac.ok (m : Mac) : Prop := I64 m.pc ∧ I64 m.st ∧ I64 m.co ∧ 0 ≤ m.nm
theorem decR_rd (w : Int) : rdZ (decR w) 0 = decZ w 0 ∧ rdZ (decR w) 1 = decZ w 1 ∧ rdZ (decR w) 2 = decZ w 2 ∧ rdZ (decR w) 3 = decZ w 3 ∧ rdZ (decR w) 4 = decZ w 4 ∧ rdZ (decR w) 5 = qQz (decZ w 5 == 0) := by
 have h := rd_chn [decZ w 0, decZ w 1, decZ w 2, decZ w 3, decZ w 4, qQz (decZ w 5 == 0)]
 exact ⟨h 0, h 1, h 2, h 3, h 4, h 5⟩
theorem decR_ok (x : Int) : okRow (decR (IntKind.wrap .u32 x)) := by
 obtain ⟨r0, r1, r2, r3, r4, r5⟩ := decR_rd (IntKind.wrap .u32 x)
 have hb := wrap_bd .u32 x
 have b1 : klo .u32 = 0 := by decide
 have b2 : khi .u32 = 4294967295 := by decide
 generalize IntKind.wrap .u32 x = w at *
 have z := decZ_bd w
 unfold okRow
 rw [r0, r1, r2, r3, r4, r5]
 intro h
 have hd : decZ w 5 = 0 := by
  by_cases e : decZ w 5 = 0
  ·exact e
  ·simp [qQz, e] at h
 have hP : decP w := by
  by_cases e : decP w
  ·exact e
  ·exfalso
   have e2 : w % 4294967296 = w := by omega
   unfold decZ at hd
   simp [e2, e] at hd
   split at hd <;> omega
 obtain ⟨g0, g1, g2, g3, g4, g5⟩ := dec_yes (by omega) (by omega) hP
 have z0 := z 0; have z1 := z 1; have z2 := z 2; have z3 := z 3; have z4 := z 4
 rw [w64 (x := decZ w 0) (by omega) (by omega), w64 (x := decZ w 1) (by omega) (by omega), w64 (x := decZ w 2) (by omega) (by omega), w64 (x := decZ w 3) (by omega) (by omega), w64 (x := decZ w 4) (by omega) (by omega)]
 refine ⟨?_, ⟨by omega, by omega⟩, ⟨by omega, by omega⟩, ?_, z4⟩
 ·rw [g0]; unfold decP at hP; simp only at hP; omega
 ·rw [g3]; split <;> omega
structure Inv (w c1 n0 n1 : Int) (m : Mac) : Prop where
 ok : m.ok
 co : m.co = costF m.mq m.nm.toNat
 mks : ∀ i : Nat, (i : Int) < m.nm → (0 ≤ mk m.mq i 0 ∧ mk m.mq i 0 < n0) ∧ (-1 ≤ mk m.mq i 1 ∧ mk m.mq i 1 < n1) ∧ (1 ≤ mk m.mq i 2 ∧ mk m.mq i 2 ≤ 34)
 mem : ∀ i : Int, 0 ≤ i → i < n1 → (∃ k : Nat, (k : Int) < m.nm ∧ mk m.mq k 1 = i ∧ IntKind.wrap .u32 (rdZ w (mk m.mq k 0)) / 67108864 = 35) ∨ IntKind.wrap .i32 (rdZ m.rm i) = IntKind.wrap .i32 (rdZ c1 i)
section
variable {w c1 n0 n1 : Int} {m : Mac}
end
end Go.Eng
end
/-!  -/
noncomputable section
namespace Go.Eng
abbrev b32 (x : Int) : BitVec 32 := BitVec.ofInt 32 x
def bt (Z : BitVec 32) (i : Nat) : Int := if Z.getLsbD i then 1 else 0
end Go.Eng
end
/-!  -/
noncomputable section
namespace Go.Eng
section
variable {rg rm pc st co mq nm d a b n nr : Int}
end
theorem dec_in (x : Int) (h : decZ (IntKind.wrap .u32 x) 5 = 0) : (1 ≤ decZ (IntKind.wrap .u32 x) 0 ∧ decZ (IntKind.wrap .u32 x) 0 ≤ 43) ∧ (0 ≤ decZ (IntKind.wrap .u32 x) 1 ∧ decZ (IntKind.wrap .u32 x) 1 < 32) ∧ (0 ≤ decZ (IntKind.wrap .u32 x) 2 ∧ decZ (IntKind.wrap .u32 x) 2 < 32) ∧
  (0 ≤ decZ (IntKind.wrap .u32 x) 3 ∧ decZ (IntKind.wrap .u32 x) 3 < 32) ∧ (-32768 ≤ decZ (IntKind.wrap .u32 x) 4 ∧ decZ (IntKind.wrap .u32 x) 4 ≤ 65535) := by
 have hr := decR_ok x
 obtain ⟨r0, r1, r2, r3, r4, r5⟩ := decR_rd (IntKind.wrap .u32 x)
 have z := decZ_bd (IntKind.wrap .u32 x)
 have v : ∀ j, IntKind.wrap .i64 (decZ (IntKind.wrap .u32 x) j) = decZ (IntKind.wrap .u32 x) j := fun j => w64 (by have := z j; omega) (by have := z j; omega)
 unfold okRow at hr
 rw [r0, r1, r2, r3, r4, r5, v 0, v 1, v 2, v 3, v 4] at hr
 exact hr (by simp [qQz, h])
section
variable {c0 c1 n1 i rg rm pc st co mq nm xrg xrm xpc xst xmq xnm xg xm xp xs xq xn B S : Int} {k : Nat}
end
section
variable {wq nr rg rm pc st mq nm A B B' p s Q n : Int} {k : Nat}
end
section
variable {rg rm pc st co co' mq nm d a b n nr op : Int}
end
section
variable {wq nr rg rm pc st mq nm A p s Q n nc : Int} {k : Nat}
end
end Go.Eng
end
/-!  -/
noncomputable section
namespace Go.Eng
def RwK (k : IntKind) (q : Int) (L : List Int) : Prop := ∀ i : Nat, i < L.length → k.wrap (rdZ q i) = L.getD i 0
theorem RwK.eq {k : IntKind} {q n : Int} {L : List Int} (h : RwK k q L) (hn : n ≤ L.length) : qQd [.int k] q (LZ L) n := rowEq_one fun i hi => by
 have hl : i < L.length := by omega
 rw [Rw.lz L i hl, ← h i hl, wrap_wrap _ _ _ (by exact Nat.le_refl _)]
end Go.Eng
end
/-!  -/
noncomputable section
namespace Go.Eng
section
variable {nx : Nat → List Nat}
theorem Way.nbar {bar : Nat → Prop} {a b : Nat} (h : Way nx bar a b) : ¬bar a ∧ ¬bar b := by
 induction h with
 | here h => exact ⟨h, h⟩
 | on _ _ hc ih => exact ⟨ih.1, hc⟩
theorem Way.trans {bar : Nat → Prop} {a b c : Nat} (h : Way nx bar a b) (k : Way nx bar b c) : Way nx bar a c := by
 induction k with
 | here _ => exact h
 | on _ h1 h2 ih => exact ih.on h1 h2
theorem Way.front {bar : Nat → Prop} {a b c : Nat} (ha : ¬bar a) (h : b ∈ nx a) (k : Way nx bar b c) : Way nx bar a c := (Way.on (.here ha) h k.nbar.1).trans k
theorem Way.least {bar S : Nat → Prop} {a b : Nat} (h : Way nx bar a b) (h0 : S a) (hs : ∀ b c, S b → c ∈ nx b → ¬bar c → S c) : S b := by
 induction h with
 | here _ => exact h0
 | on _ h1 h2 ih => exact hs _ _ ih h1 h2
theorem Way.mono {bar bar' : Nat → Prop} {a b : Nat} (h : Way nx bar a b) (k : ∀ x, bar' x → bar x) : Way nx bar' a b := by
 induction h with
 | here h => exact .here fun e => h (k _ e)
 | on _ h1 h2 ih => exact ih.on h1 fun e => h2 (k _ e)
theorem Way.lt {bar : Nat → Prop} {n a b : Nat} (hn : ∀ p, ∀ q ∈ nx p, q < n) (ha : a < n) (h : Way nx bar a b) : b < n := by
 induction h with
 | here _ => exact ha
 | on _ h1 _ _ => exact hn _ _ h1
def bkw (nx : Nat → List Nat) (n : Nat) (p : Nat) : List Nat := (List.range n).filter fun q => decide (p ∈ nx q)
structure Come (nx : Nat → List Nat) (bar : Nat → Prop) (p : Nat) (S S' : Nat → Prop) : Prop where
 sub : ∀ x, S x → S' x
 at_ : ¬bar p → S' p
 way : ∀ x, S' x → ¬S x → Way nx bar p x
 on : ∀ x, S' x → ¬S x → ∀ c ∈ nx x, S' c ∨ bar c
theorem Come.skip {bar S : Nat → Prop} {p : Nat} (h : S p ∨ bar p) : Come nx bar p S S :=
 ⟨fun _ h => h, fun hb => h.resolve_right hb, fun _ h k => absurd h k, fun _ h k => absurd h k⟩
structure ComeL (nx : Nat → List Nat) (bar : Nat → Prop) (p : Nat) (S T : Nat → Prop) (k : Nat) : Prop where
 sub : ∀ x, S x → T x
 at_ : T p
 way : ∀ x, T x → ¬S x → Way nx bar p x
 on : ∀ x, T x → ¬S x → x ≠ p → ∀ c ∈ nx x, T c ∨ bar c
 done : ∀ c ∈ (nx p).take k, T c ∨ bar c
theorem ComeL.start {bar S : Nat → Prop} {p : Nat} (hb : ¬bar p) : ComeL nx bar p S (fun x => S x ∨ x = p) 0 :=
 ⟨fun _ h => .inl h, .inr rfl, fun x h k => by
  rcases h with h | rfl
  ·exact absurd h k
  ·exact .here hb, fun x h k e => by
  rcases h with h | h
  ·exact absurd h k
  ·exact absurd h e, fun c hc => by simp at hc⟩
theorem ComeL.next {bar S T T' : Nat → Prop} {p c k : Nat} (h : ComeL nx bar p S T k) (hk : (nx p)[k]? = some c) (hc : Come nx bar c T T') (hb : ¬bar p) : ComeL nx bar p S T' (k + 1) := by
 have hcm : c ∈ nx p := List.mem_of_getElem? hk
 refine ⟨fun x hx => hc.sub x (h.sub x hx), hc.sub p h.at_, fun x hx hn => ?_, fun x hx hn e d hd => ?_, fun d hd => ?_⟩
 ·by_cases ht : T x
  ·exact h.way x ht hn
  ·exact Way.front hb hcm (hc.way x hx ht)
 ·by_cases ht : T x
  ·exact (h.on x ht hn e d hd).imp (hc.sub d) id
  ·exact hc.on x hx ht d hd
 ·rw [List.take_add_one, hk] at hd
  rcases List.mem_append.1 hd with hd | hd
  ·exact (h.done d hd).imp (hc.sub d) id
  ·simp at hd; subst hd
   by_cases hbd : bar d
   ·exact .inr hbd
   ·exact .inl (hc.at_ hbd)
theorem ComeL.fin {bar S T : Nat → Prop} {p k : Nat} (h : ComeL nx bar p S T k) (hk : (nx p).length ≤ k) : Come nx bar p S T :=
 ⟨h.sub, fun _ => h.at_, h.way, fun x hx hn c hc => by
  by_cases e : x = p
  ·subst e; exact h.done c (by rw [List.take_of_length_le hk]; exact hc)
  ·exact h.on x hx hn e c hc⟩
theorem Come.all {bar T : Nat → Prop} {p : Nat} (h : Come nx bar p (fun _ => False) T) (x : Nat) : T x ↔ Way nx bar p x := by
 refine ⟨fun hx => h.way x hx id, fun hw => ?_⟩
 refine hw.least (h.at_ hw.nbar.1) fun b c hb hc hn => (h.on b hb id c hc).resolve_right hn
def Ranked (nx : Nat → List Nat) (D : Nat → Prop) : Prop := ∃ r : Nat → Nat, ∀ x, D x → ∀ c ∈ nx x, D c ∧ r c < r x
theorem Ranked.put {D : Nat → Prop} {p : Nat} (h : Ranked nx D) (hp : ¬D p) (hs : ∀ c ∈ nx p, D c) : Ranked nx fun x => D x ∨ x = p := by
 obtain ⟨r, hr⟩ := h
 refine ⟨fun x => if x = p then ((nx p).map r).sum + 1 else r x, fun x hx c hc => ?_⟩
 have hsum : ∀ (l : List Nat) (c : Nat), c ∈ l → r c ≤ (l.map r).sum := fun l c hc => by
  induction l with
  | nil => cases hc
  | cons y l ih =>
   rcases List.mem_cons.1 hc with rfl | hc
   ·simp
   ·have := ih hc; simp; omega
 by_cases e : x = p
 ·subst e
  have hd := hs c hc
  have hcp : c ≠ x := fun e => hp (e ▸ hd)
  refine ⟨.inl hd, ?_⟩
  simp only [if_true, if_neg hcp]
  have := hsum _ _ hc
  omega
 ·have hx' : D x := hx.resolve_right e
  obtain ⟨h1, h2⟩ := hr x hx' c hc
  have hcp : c ≠ p := fun e => hp (e ▸ h1)
  refine ⟨.inl h1, ?_⟩
  simp only [if_neg e, if_neg hcp]
  exact h2
theorem Ranked.no_cyc {D : Nat → Prop} (h : Ranked nx D) (h0 : D 0) : ¬Cyc nx := by
 rintro ⟨p, hw, q, hq, hb⟩
 obtain ⟨r, hr⟩ := h
 have hp : D p := hw.least h0 fun b c hb hc _ => (hr b hb c hc).1
 have hqp := hr p hp q hq
 have : D p ∧ r p ≤ r q := hb.least (S := fun x => D x ∧ r x ≤ r q) ⟨hqp.1, Nat.le_refl _⟩ fun b c hb hc _ => ⟨(hr b hb.1 c hc).1, by have := (hr b hb.1 c hc).2; omega⟩
 omega
theorem Ranked.none : Ranked nx fun _ => False := ⟨fun _ => 0, fun _ h => h.elim⟩
structure CyP (nx : Nat → List Nat) (p : Nat) (O D : Nat → Prop) (f : Prop) (O' D' : Nat → Prop) (f' : Prop) : Prop where
 opn : ∀ x, O' x ↔ O x
 sub : ∀ x, D x → D' x
 at_ : D' p
 apart : ∀ x, D' x → ¬O x
 more : f → f'
 yes : f' → Cyc nx
 no : ¬f' → Ranked nx D'
structure CyQ (nx : Nat → List Nat) (p : Nat) (O D : Nat → Prop) (f : Prop) : Prop where
 fr : ¬O p ∧ ¬D p
 from0 : Way nx (fun _ => False) 0 p
 opn : ∀ g, O g → Way nx (fun _ => False) g p
 apart : ∀ x, D x → ¬O x
 yes : f → Cyc nx
 no : ¬f → Ranked nx D
structure CyL (nx : Nat → List Nat) (p : Nat) (O D : Nat → Prop) (f : Prop) (O' D' : Nat → Prop) (f' : Prop) (k : Nat) : Prop where
 opn : ∀ x, O' x ↔ (O x ∨ x = p)
 sub : ∀ x, D x → D' x
 apart : ∀ x, D' x → ¬(O x ∨ x = p)
 more : f → f'
 yes : f' → Cyc nx
 no : ¬f' → Ranked nx D'
 done : ¬f' → ∀ c ∈ (nx p).take k, D' c
theorem CyL.start {O D : Nat → Prop} {f : Prop} {p : Nat} (h : CyQ nx p O D f) : CyL nx p O D f (fun x => O x ∨ x = p) D f 0 :=
 ⟨fun _ => Iff.rfl, fun _ h => h, fun x hx k => by
  rcases k with k | k
  ·exact h.apart x hx k
  ·subst k; exact h.fr.2 hx, id, h.yes, h.no, fun _ c hc => by simp at hc⟩
theorem CyL.hit {O D O' D' : Nat → Prop} {f f' : Prop} {p c k : Nat} (q : CyQ nx p O D f) (h : CyL nx p O D f O' D' f' k) (hk : (nx p)[k]? = some c) (ho : O' c) : CyL nx p O D f O' D' True (k + 1) := by
 have hcm : c ∈ nx p := List.mem_of_getElem? hk
 have hw : Way nx (fun _ => False) c p := by
  rcases (h.opn c).1 ho with g | rfl
  ·exact q.opn c g
  ·exact .here id
 exact ⟨h.opn, h.sub, h.apart, fun _ => trivial, fun _ => ⟨p, q.from0, c, hcm, hw⟩, fun h => absurd trivial h, fun h => absurd trivial h⟩
theorem CyL.old {O D O' D' : Nat → Prop} {f f' : Prop} {p c k : Nat} (h : CyL nx p O D f O' D' f' k) (hk : (nx p)[k]? = some c) (hd : D' c) : CyL nx p O D f O' D' f' (k + 1) :=
 ⟨h.opn, h.sub, h.apart, h.more, h.yes, h.no, fun hf x hx => by
  rw [List.take_add_one, hk] at hx
  rcases List.mem_append.1 hx with hx | hx
  ·exact h.done hf x hx
  ·simp at hx; subst hx; exact hd⟩
theorem CyL.pre {O D O' D' : Nat → Prop} {f f' : Prop} {p c k : Nat} (q : CyQ nx p O D f) (h : CyL nx p O D f O' D' f' k) (hk : (nx p)[k]? = some c) (ho : ¬O' c) (hd : ¬D' c) : CyQ nx c O' D' f' := by
 have hcm : c ∈ nx p := List.mem_of_getElem? hk
 refine ⟨⟨ho, hd⟩, q.from0.on hcm id, fun g hg => ?_, fun x hx k => h.apart x hx ((h.opn x).1 k), h.yes, h.no⟩
 rcases (h.opn g).1 hg with g1 | rfl
 ·exact (q.opn g g1).on hcm id
 ·exact .on (.here id) hcm id
theorem CyL.call {O D O' D' O2 D2 : Nat → Prop} {f f' f2 : Prop} {p c k : Nat} (h : CyL nx p O D f O' D' f' k) (hk : (nx p)[k]? = some c) (r : CyP nx c O' D' f' O2 D2 f2) : CyL nx p O D f O2 D2 f2 (k + 1) := by
 refine ⟨fun x => (r.opn x).trans (h.opn x), fun x hx => r.sub x (h.sub x hx), fun x hx k => r.apart x hx ((h.opn x).2 k), fun hf => r.more (h.more hf), r.yes, r.no, fun hf x hx => ?_⟩
 rw [List.take_add_one, hk] at hx
 rcases List.mem_append.1 hx with hx | hx
 ·exact r.sub x (h.done (fun e => hf (r.more e)) x hx)
 ·simp at hx; subst hx; exact r.at_
theorem CyL.fin {O D O' D' : Nat → Prop} {f f' : Prop} {p k : Nat} (q : CyQ nx p O D f) (h : CyL nx p O D f O' D' f' k) (hk : (nx p).length ≤ k) : CyP nx p O D f (fun x => O' x ∧ x ≠ p) (fun x => D' x ∨ x = p) f' := by
 refine ⟨fun x => ?_, fun x hx => .inl (h.sub x hx), .inr rfl, fun x hx ho => ?_, h.more, h.yes, fun hf => ?_⟩
 ·rw [h.opn]
  constructor
  ·rintro ⟨g | g, e⟩
   ·exact g
   ·exact absurd g e
  ·intro g
   exact ⟨.inl g, fun e => q.fr.1 (e ▸ g)⟩
 ·rcases hx with hx | rfl
  ·exact h.apart x hx (.inl ho)
  ·exact q.fr.1 ho
 ·have hd := h.done hf
  rw [List.take_of_length_le hk] at hd
  exact (h.no hf).put (fun e => h.apart p e (.inr rfl)) hd
theorem CyP.all {O' D' : Nat → Prop} {f' : Prop} (h : CyP nx 0 (fun _ => False) (fun _ => False) False O' D' f') : f' ↔ Cyc nx :=
 ⟨h.yes, fun hc => Classical.byContradiction fun hf => (h.no hf).no_cyc h.at_ hc⟩
theorem CyQ.first : CyQ nx 0 (fun _ => False) (fun _ => False) False := ⟨⟨id, id⟩, .here id, fun _ h => h.elim, fun _ h => h.elim, fun h => h.elim, fun _ => Ranked.none⟩
end
end Go.Eng
end
/-!  -/
noncomputable section
namespace Go.Eng
theorem nx_z0 : LZ [] = 0 := rfl
theorem nx_z1 (a : Int) : LZ [a] = qQq a 0 := by
 have : ZL 0 = [] := by rw [← nx_z0, ZL_LZ]
 unfold qQq; rw [this]
theorem nx_z2 (a b : Int) : LZ [a, b] = qQq a (qQq b 0) := by
 rw [← nx_z1 b]; unfold qQq; rw [ZL_LZ]
theorem nx_say {q n p m y : Int} {l : List Int} (h : nxL q n p = l) (hm : m = (l.length : Int)) (hy : y = LZ l) : m = nxN q n p ∧ qQd [.int .i64] y (nxZ q n p) m := by
 subst hm; subst hy; subst h
 exact ⟨rfl, rowEq_refl _ _ _⟩
def nxC (y0 y4 n p : Int) : List Int :=
 if y0 = 0 ∨ y0 = 41 ∨ y0 = 43 then [] else
 if y0 = 39 ∨ y0 = 40 then [y4].filter (fun x => decide (x < n)) else
 if y0 = 36 ∨ y0 = 37 ∨ y0 = 38 then (go2 y4 (p + 1)).filter (fun x => decide (x < n)) else
 [p + 1].filter (fun x => decide (x < n))
theorem nxL_in {q n p y0 y4 : Int} (hp : 0 ≤ p) (hn : p < n) (h0 : y0 = decZ (IntKind.wrap .u32 (rdZ q p)) 0) (h4 : y4 = decZ (IntKind.wrap .u32 (rdZ q p)) 4) : nxL q n p = nxC y0 y4 n p := by
 unfold nxL nxC
 rw [if_neg (by omega), ← h0, ← h4]
theorem nxL_out {q n p : Int} (h : p < 0 ∨ n ≤ p) : nxL q n p = [] := by unfold nxL; rw [if_pos h]
theorem nxC_0 {y0 y4 n p : Int} (h : y0 = 0 ∨ y0 = 41 ∨ y0 = 43) : nxC y0 y4 n p = [] := by unfold nxC; rw [if_pos h]
theorem nxC_1 {y0 y4 n p : Int} (h : y0 = 39 ∨ y0 = 40) : nxC y0 y4 n p = if y4 < n then [y4] else [] := by
 unfold nxC; rw [if_neg (by omega), if_pos h]; by_cases e : y4 < n <;> simp [e]
theorem nxC_2 {y0 y4 n p : Int} (h : y0 = 36 ∨ y0 = 37 ∨ y0 = 38) : nxC y0 y4 n p = (go2 y4 (p + 1)).filter (fun x => decide (x < n)) := by
 unfold nxC; rw [if_neg (by omega), if_neg (by omega), if_pos h]
theorem nxC_3 {y0 y4 n p : Int} (h : ¬ (y0 = 0 ∨ y0 = 41 ∨ y0 = 43)) (h1 : ¬ (y0 = 39 ∨ y0 = 40)) (h2 : ¬ (y0 = 36 ∨ y0 = 37 ∨ y0 = 38)) : nxC y0 y4 n p = if p + 1 < n then [p + 1] else [] := by
 unfold nxC; rw [if_neg h, if_neg h1, if_neg h2]; by_cases e : p + 1 < n <;> simp [e]
theorem nx_two {q n p y s : Int} (hL : nxL q n p = (go2 y s).filter (fun x => decide (x < n))) :
  (n ≤ y → (s < n → (1 : Int) = nxN q n p ∧ qQd [.int .i64] (qQq s 0) (nxZ q n p) 1) ∧ (n ≤ s → (0 : Int) = nxN q n p ∧ qQd [.int .i64] 0 (nxZ q n p) 0)) ∧
  (y < n → (n ≤ s → (1 : Int) = nxN q n p ∧ qQd [.int .i64] (qQq y 0) (nxZ q n p) 1) ∧
   (s < n → (s < y → (y = s → (1 : Int) = nxN q n p ∧ qQd [.int .i64] (qQq s 0) (nxZ q n p) 1) ∧ (¬y = s → (2 : Int) = nxN q n p ∧ qQd [.int .i64] (qQq s (qQq y 0)) (nxZ q n p) 2)) ∧
    (y ≤ s → (s = y → (1 : Int) = nxN q n p ∧ qQd [.int .i64] (qQq y 0) (nxZ q n p) 1) ∧ (¬s = y → (2 : Int) = nxN q n p ∧ qQd [.int .i64] (qQq y (qQq s 0)) (nxZ q n p) 2)))) := by
 have k0 : nxL q n p = [] → (0 : Int) = nxN q n p ∧ qQd [.int .i64] 0 (nxZ q n p) 0 := fun h => nx_say h rfl rfl
 have k1 : ∀ a, nxL q n p = [a] → (1 : Int) = nxN q n p ∧ qQd [.int .i64] (qQq a 0) (nxZ q n p) 1 := fun a h => nx_say h rfl (nx_z1 a).symm
 have k2 : ∀ a b, nxL q n p = [a, b] → (2 : Int) = nxN q n p ∧ qQd [.int .i64] (qQq a (qQq b 0)) (nxZ q n p) 2 := fun a b h => nx_say h rfl (nx_z2 a b).symm
 refine ⟨fun h => ⟨fun g => k1 _ ?_, fun g => k0 ?_⟩, fun h => ⟨fun g => k1 _ ?_, fun g => ⟨fun c => ⟨fun e => by omega, fun e => k2 _ _ ?_⟩, fun c => ⟨fun e => k1 _ ?_, fun e => k2 _ _ ?_⟩⟩⟩⟩
 all_goals
  rw [hL]; unfold go2
 ·rw [if_neg (by omega), if_neg (by omega)]; simp [g, Int.not_lt.2 h]
 ·split
  ·simp [Int.not_lt.2 h]
  ·split <;> simp [Int.not_lt.2 h, Int.not_lt.2 g]
 ·rw [if_neg (by omega), if_pos (by omega)]; simp [h, Int.not_lt.2 g]
 ·rw [if_neg (by omega), if_neg (by omega)]; simp [h, g]
 ·rw [if_pos (by omega)]; simp [h]
 ·rw [if_neg (by omega), if_pos (by omega)]; simp [h, g]
end Go.Eng
end
