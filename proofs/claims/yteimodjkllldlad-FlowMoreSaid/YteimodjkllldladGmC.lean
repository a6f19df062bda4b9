/-
  Parts of the engine, a program's symbolic run, proved sound; and of plain laws.
-/
import Derived.Test.YteimodjkllldladGmP
set_option linter.unusedVariables false
set_option linter.unusedSimpArgs false

/-!  -/
noncomputable section
namespace Go.Eng
theorem shr_ev (k : IntKind) (x s : Int) : BO.ev .shr k x s = x / 2 ^ (Nat.min s.toNat k.bits) := by
 show x.fdiv (2 ^ _) = _
 rw [Int.fdiv_eq_ediv_of_nonneg _ (Int.le_of_lt (Int.pow_pos (by decide)))]
theorem wu32 (x : Int) : IntKind.wrap .u32 x = x % 4294967296 := by simp [IntKind.wrap, IntKind.bits, IntKind.signed]
theorem sh26 (w : Int) : shrZ .u32 w 26 = w / 67108864 := shr_ev .u32 w 26
theorem sh21 (w : Int) : shrZ .u32 w 21 = w / 2097152 := shr_ev .u32 w 21
theorem sh16 (w : Int) : shrZ .u32 w 16 = w / 65536 := shr_ev .u32 w 16
theorem sh11 (w : Int) : shrZ .u32 w 11 = w / 2048 := shr_ev .u32 w 11
theorem sh0 (w : Int) : shrZ .u32 w 0 = w := by rw [show shrZ .u32 w 0 = w / 1 from shr_ev .u32 w 0]; omega
theorem sl26 (w : Int) : shlZ .u32 w 26 = w * 67108864 % 4294967296 := wu32 _
theorem sl21 (w : Int) : shlZ .u32 w 21 = w * 2097152 % 4294967296 := wu32 _
theorem sl16 (w : Int) : shlZ .u32 w 16 = w * 65536 % 4294967296 := wu32 _
theorem sl11 (w : Int) : shlZ .u32 w 11 = w * 2048 % 4294967296 := wu32 _
theorem sl0 (w : Int) : shlZ .u32 w 0 = w % 4294967296 := by rw [show shlZ .u32 w 0 = (w * 1) % 4294967296 from wu32 _, Int.mul_one]
theorem band_u32 (j : Nat) (m : Int) (hm : (BitVec.ofInt 32 m).toNat = 2 ^ j - 1) (hj : 2 ^ j ≤ 4294967296) (x : Int) : band .u32 x m = x % 4294967296 % (2 ^ j : Nat) := by
 show IntKind.wrap .u32 ((BitVec.ofInt 32 x &&& BitVec.ofInt 32 m).toNat : Int) = _
 rw [BitVec.toNat_and, hm, Nat.and_two_pow_sub_one_eq_mod, wu32, BitVec.toNat_ofInt]
 have h : (((2 ^ 32 : Nat)) : Int) = 4294967296 := by decide
 rw [h]
 have hp : 0 < 2 ^ j := Nat.two_pow_pos j
 have h1 : (((x % 4294967296).toNat % 2 ^ j : Nat) : Int) = x % 4294967296 % (2 ^ j : Nat) := by
  rw [Int.natCast_emod, Int.toNat_of_nonneg (by omega)]
 rw [h1]
 have h2 := Int.emod_lt_of_pos (x % 4294967296) (show (0 : Int) < ((2 ^ j : Nat) : Int) by omega)
 have h3 := Int.emod_nonneg (x % 4294967296) (show ((2 ^ j : Nat) : Int) ≠ 0 by omega)
 omega
theorem ba31 (x : Int) : band .u32 x 31 = x % 32 := by rw [band_u32 5 31 (by decide) (by decide)]; show x % 4294967296 % 32 = _; omega
theorem ba16 (x : Int) : band .u32 x 65535 = x % 65536 := by rw [band_u32 16 65535 (by decide) (by decide)]; show x % 4294967296 % 65536 = _; omega
theorem or_add (k : Nat) {h l : Int} (h0 : 0 ≤ h) (h1 : h < 4294967296) (l0 : 0 ≤ l) (l1 : l < (2 ^ k : Nat)) (hk : h % (2 ^ k : Nat) = 0) (hl : h + l < 4294967296) : bor .u32 h l = h + l := by
 obtain ⟨a, rfl⟩ := Int.eq_ofNat_of_zero_le h0
 obtain ⟨b, rfl⟩ := Int.eq_ofNat_of_zero_le l0
 show IntKind.wrap .u32 ((BitVec.ofInt 32 (a : Int) ||| BitVec.ofInt 32 (b : Int)).toNat : Int) = _
 rw [BitVec.toNat_or, BitVec.toNat_ofInt, BitVec.toNat_ofInt]
 have e : (((2 ^ 32 : Nat)) : Int) = 4294967296 := by decide
 rw [e]
 have e1 : ((a : Int) % 4294967296).toNat = a := by omega
 have e2 : ((b : Int) % 4294967296).toNat = b := by omega
 rw [e1, e2]
 have hb : b < 2 ^ k := by omega
 have ha : a = 2 ^ k * (a / 2 ^ k) := by
  have : a % 2 ^ k = 0 := by omega
  have := Nat.div_add_mod a (2 ^ k)
  omega
 rw [ha, ← Nat.two_pow_add_eq_or_of_lt hb, ← ha, wu32]
 omega
theorem or_0 {h : Int} (h0 : 0 ≤ h) (h1 : h < 4294967296) : bor .u32 h 0 = h := by
 rw [or_add 0 h0 h1 (by omega) (by decide) (by show h % 1 = 0; omega) (by omega)]; omega
theorem or21 {h l : Int} (h0 : 0 ≤ h) (h1 : h < 4294967296) (l0 : 0 ≤ l) (l1 : l < 67108864) (hk : h % 67108864 = 0) : bor .u32 h l = h + l := or_add 26 h0 h1 l0 l1 hk (by omega)
theorem or16 {h l : Int} (h0 : 0 ≤ h) (h1 : h < 4294967296) (l0 : 0 ≤ l) (l1 : l < 2097152) (hk : h % 2097152 = 0) : bor .u32 h l = h + l := or_add 21 h0 h1 l0 l1 hk (by omega)
theorem or11 {h l : Int} (h0 : 0 ≤ h) (h1 : h < 4294967296) (l0 : 0 ≤ l) (l1 : l < 65536) (hk : h % 65536 = 0) : bor .u32 h l = h + l := or_add 16 h0 h1 l0 l1 hk (by omega)
theorem dec_no2 {w : Int} (h0 : 0 ≤ w) (h1 : w ≤ 4294967295) (h : ¬ (1 ≤ w / 67108864 ∧ w / 67108864 ≤ 43)) : 0 = decZ w 0 ∧ 0 = decZ w 1 ∧ 0 = decZ w 2 ∧ 0 = decZ w 3 ∧ 0 = decZ w 4 ∧ 2 = decZ w 5 := by
 have e : w % 4294967296 = w := by omega
 have hd : ¬ decP w := by unfold decP; simp only; omega
 unfold decZ
 simp [e, hd]
 omega
theorem dec_no3 {w : Int} (h0 : 0 ≤ w) (h1 : w ≤ 4294967295) (h : 1 ≤ w / 67108864 ∧ w / 67108864 ≤ 43) (hd : ¬ decP w) : 0 = decZ w 0 ∧ 0 = decZ w 1 ∧ 0 = decZ w 2 ∧ 0 = decZ w 3 ∧ 0 = decZ w 4 ∧ 3 = decZ w 5 := by
 have e : w % 4294967296 = w := by omega
 unfold decZ
 simp [e, hd, h]
theorem dec_yes {w : Int} (h0 : 0 ≤ w) (h1 : w ≤ 4294967295) (hd : decP w) : decZ w 0 = w / 67108864 ∧ decZ w 1 = w / 2097152 % 32 ∧ decZ w 2 = w / 65536 % 32 ∧ decZ w 3 = (if w / 67108864 ≤ 23 then w / 2048 % 32 else 0) ∧ decZ w 4 = decN w ∧ decZ w 5 = 0 := by
 have e : w % 4294967296 = w := by omega
 unfold decZ
 simp [e, hd]
theorem dec_fit {w a b c d n : Int} (h0 : 0 ≤ w) (h1 : w ≤ 4294967295) (hd : decP w) (e0 : a = w / 67108864) (e1 : b = w / 2097152 % 32) (e2 : c = w / 65536 % 32) (e3 : d = if w / 67108864 ≤ 23 then w / 2048 % 32 else 0) (e4 : n = decN w) :
  a = decZ w 0 ∧ b = decZ w 1 ∧ c = decZ w 2 ∧ d = decZ w 3 ∧ n = decZ w 4 ∧ 0 = decZ w 5 := by
 obtain ⟨g0, g1, g2, g3, g4, g5⟩ := dec_yes h0 h1 hd
 exact ⟨e0.trans g0.symm, e1.trans g1.symm, e2.trans g2.symm, e3.trans g3.symm, e4.trans g4.symm, g5.symm⟩
def I64 (x : Int) : Prop := -9223372036854775808 ≤ x ∧ x ≤ 9223372036854775807
def Mac.ok (m : Mac) : Prop := I64 m.pc ∧ I64 m.st ∧ I64 m.co ∧ 0 ≤ m.nm
theorem decR_rd (w : Int) : rdZ (decR w) 0 = decZ w 0 ∧ rdZ (decR w) 1 = decZ w 1 ∧ rdZ (decR w) 2 = decZ w 2 ∧ rdZ (decR w) 3 = decZ w 3 ∧ rdZ (decR w) 4 = decZ w 4 ∧ rdZ (decR w) 5 = qQz (decZ w 5 == 0) := by
 have h := rd_chn [decZ w 0, decZ w 1, decZ w 2, decZ w 3, decZ w 4, qQz (decZ w 5 == 0)]
 exact ⟨h 0, h 1, h 2, h 3, h 4, h 5⟩
theorem decR_ok (x : Int) : okRow (decR (IntKind.wrap .u32 x)) := by
 obtain ⟨r0, r1, r2, r3, r4, r5⟩ := decR_rd (IntKind.wrap .u32 x)
 have hb := wrap_bd .u32 x
 have b1 : klo .u32 = 0 := by decide
 have b2 : khi .u32 = 4294967295 := by decide
 generalize IntKind.wrap .u32 x = w at *
 have z := decZ_bd w
 unfold okRow
 rw [r0, r1, r2, r3, r4, r5]
 intro h
 have hd : decZ w 5 = 0 := by
  by_cases e : decZ w 5 = 0
  ·exact e
  ·simp [qQz, e] at h
 have hP : decP w := by
  by_cases e : decP w
  ·exact e
  ·exfalso
   have e2 : w % 4294967296 = w := by omega
   unfold decZ at hd
   simp [e2, e] at hd
   split at hd <;> omega
 obtain ⟨g0, g1, g2, g3, g4, g5⟩ := dec_yes (by omega) (by omega) hP
 have z0 := z 0; have z1 := z 1; have z2 := z 2; have z3 := z 3; have z4 := z 4
 rw [w64 (x := decZ w 0) (by omega) (by omega), w64 (x := decZ w 1) (by omega) (by omega), w64 (x := decZ w 2) (by omega) (by omega), w64 (x := decZ w 3) (by omega) (by omega), w64 (x := decZ w 4) (by omega) (by omega)]
 refine ⟨?_, ⟨by omega, by omega⟩, ⟨by omega, by omega⟩, ?_, z4⟩
 ·rw [g0]; unfold decP at hP; simp only at hP; omega
 ·rw [g3]; split <;> omega
theorem sameW_refl (c n : Int) : sameW c c n = 1 := by unfold sameW; rw [if_pos fun _ _ => rfl]
structure Inv (w c1 n0 n1 : Int) (m : Mac) : Prop where
 ok : m.ok
 co : m.co = costF m.mq m.nm.toNat
 mks : ∀ i : Nat, (i : Int) < m.nm → (0 ≤ mk m.mq i 0 ∧ mk m.mq i 0 < n0) ∧ (-1 ≤ mk m.mq i 1 ∧ mk m.mq i 1 < n1) ∧ (1 ≤ mk m.mq i 2 ∧ mk m.mq i 2 ≤ 34)
 mem : ∀ i : Int, 0 ≤ i → i < n1 → (∃ k : Nat, (k : Int) < m.nm ∧ mk m.mq k 1 = i ∧ IntKind.wrap .u32 (rdZ w (mk m.mq k 0)) / 67108864 = 35) ∨ IntKind.wrap .i32 (rdZ m.rm i) = IntKind.wrap .i32 (rdZ c1 i)
section
variable {w c1 n0 n1 : Int} {m : Mac}
end
end Go.Eng
end
