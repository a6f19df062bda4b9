/-
  Parts of the engine, a program's symbolic run, proved sound; and of plain laws.
-/
import Derived.Test.YtppkkgicidagmabGreatDoorGp1
set_option linter.unusedVariables false
set_option linter.unusedSimpArgs false
/-!  -/
noncomputable section
namespace Go.Eng
theorem wi32 {x : Int} (h1 : -2147483648 ≤ x) (h2 : x ≤ 2147483647) : IntKind.wrap .i32 x = x := qXi .i32 _ h1 h2
theorem sat_in (m : Int) : -2147483648 ≤ BO.ev .min .i64 (BO.ev .max .i64 m (-2147483648)) 2147483647 ∧ BO.ev .min .i64 (BO.ev .max .i64 m (-2147483648)) 2147483647 ≤ 2147483647 := by
 simp only [BO.ev]
 repeat' split
 all_goals omega
theorem shr_i32_in {a : Int} (h1 : -2147483648 ≤ a) (h2 : a ≤ 2147483647) (s : Int) : -2147483648 ≤ BO.ev .shr .i32 a s ∧ BO.ev .shr .i32 a s ≤ 2147483647 := by
 show -2147483648 ≤ a.fdiv (2 ^ _) ∧ a.fdiv (2 ^ _) ≤ 2147483647
 have hp : (0 : Int) < 2 ^ (Nat.min s.toNat IntKind.i32.bits) := Int.pow_pos (by decide)
 rw [Int.fdiv_eq_ediv_of_nonneg _ (by omega)]
 generalize (2 : Int) ^ (Nat.min s.toNat IntKind.i32.bits) = p at hp
 constructor
 ·refine (Int.le_ediv_iff_mul_le hp).2 ?_
  have := Int.mul_le_mul_of_nonneg_left (show (1 : Int) ≤ p by omega) (show (0 : Int) ≤ 2147483648 by decide)
  omega
 ·have := Int.ediv_le_ediv hp h2
  have h3 : (2147483647 : Int) / p ≤ 2147483647 := Int.ediv_le_self p (by decide)
  omega
theorem mul_in {a b : Int} (h1 : -2147483648 ≤ a) (h2 : a ≤ 2147483647) (h3 : -2147483648 ≤ b) (h4 : b ≤ 2147483647) : -4611686018427387904 ≤ a * b ∧ a * b ≤ 4611686018427387904 := by
 constructor <;> rcases Int.le_total 0 a with g | g <;> rcases Int.le_total 0 b with k | k
 ·have := Int.mul_nonneg g k; omega
 ·have := Int.mul_le_mul_of_nonneg_left (show -b ≤ 2147483648 by omega) g
  have h5 : a * 2147483648 ≤ 2147483647 * 2147483648 := Int.mul_le_mul_of_nonneg_right h2 (by decide)
  rw [Int.mul_neg] at this; omega
 ·have := Int.mul_le_mul_of_nonneg_right (show -a ≤ 2147483648 by omega) k
  rw [Int.neg_mul] at this; omega
 ·have := Int.mul_nonneg_of_nonpos_of_nonpos g k; omega
 ·have := Int.mul_le_mul h2 h4 k (by decide); omega
 ·have := Int.mul_nonneg g (show 0 ≤ -b by omega); rw [Int.mul_neg] at this; omega
 ·have := Int.mul_nonneg (show 0 ≤ -a by omega) k; rw [Int.neg_mul] at this; omega
 ·have := Int.mul_le_mul (show -a ≤ 2147483648 by omega) (show -b ≤ 2147483648 by omega) (by omega) (by decide)
  rw [Int.neg_mul_neg] at this; omega
theorem shr_ev (k : IntKind) (x s : Int) : BO.ev .shr k x s = x / 2 ^ (Nat.min s.toNat k.bits) := by
 show x.fdiv (2 ^ _) = _
 rw [Int.fdiv_eq_ediv_of_nonneg _ (Int.le_of_lt (Int.pow_pos (by decide)))]
def In32 (x : Int) : Prop := -2147483648 ≤ x ∧ x ≤ 2147483647
theorem in_ite {p : Prop} [Decidable p] {x y : Int} (h1 : p → In32 x) (h2 : ¬ p → In32 y) : In32 (if p then x else y) := by
 split
 ·exact h1 ‹_›
 ·exact h2 ‹_›
theorem w16_in (a : Int) : In32 (IntKind.wrap .i16 a) := by
 have := qXm .i16 a
 have h1 : klo .i16 = -32768 := by decide
 have h2 : khi .i16 = 32767 := by decide
 unfold In32; omega
theorem aluX_in {op a b : Int} (h : aluP op b) (a1 : -2147483648 ≤ a) (a2 : a ≤ 2147483647) (b1 : -2147483648 ≤ b) (b2 : b ≤ 2147483647) : -2147483648 ≤ aluX op a b ∧ aluX op a b ≤ 2147483647 := by
 have hm := mul_in a1 a2 b1 b2
 show In32 _
 unfold aluX
 repeat' (first | exact w16_in _ | exact qXm .i32 _ | exact sat_in _ | exact shr_i32_in a1 a2 _ | refine in_ite (fun _ => ?_) (fun _ => ?_) | (unfold In32; omega))
 ·rw [shr_ev]; show _ ≤ a * b / 4294967296 ∧ a * b / 4294967296 ≤ _; omega
 ·have := bitLenB 32 (IntKind.wrap .u32 a % 4294967296).toNat (by omega) (by omega)
  unfold In32; omega
theorem aluV_of {op a b : Int} (h : aluP op b) (a1 : -2147483648 ≤ a) (a2 : a ≤ 2147483647) (b1 : -2147483648 ≤ b) (b2 : b ≤ 2147483647) : aluV op a b = aluX op a b := by
 unfold aluV
 rw [if_pos h]
 have := aluX_in h a1 a2 b1 b2
 exact wi32 this.1 this.2
theorem aluV_no {op a b : Int} (h : ¬ aluP op b) : aluV op a b = 0 := by unfold aluV; rw [if_neg h]
theorem aluK_ne {op a b : Int} : aluK op a b ≠ 0 ↔ aluP op b := by unfold aluK; split <;> simp_all
theorem wu32 (x : Int) : IntKind.wrap .u32 x = x % 4294967296 := by simp [IntKind.wrap, IntKind.bits, IntKind.signed]
theorem sh26 (w : Int) : shrZ .u32 w 26 = w / 67108864 := shr_ev .u32 w 26
theorem sh21 (w : Int) : shrZ .u32 w 21 = w / 2097152 := shr_ev .u32 w 21
theorem sh16 (w : Int) : shrZ .u32 w 16 = w / 65536 := shr_ev .u32 w 16
theorem sh11 (w : Int) : shrZ .u32 w 11 = w / 2048 := shr_ev .u32 w 11
theorem sh0 (w : Int) : shrZ .u32 w 0 = w := by rw [show shrZ .u32 w 0 = w / 1 from shr_ev .u32 w 0]; omega
theorem sl26 (w : Int) : shlZ .u32 w 26 = w * 67108864 % 4294967296 := wu32 _
theorem sl21 (w : Int) : shlZ .u32 w 21 = w * 2097152 % 4294967296 := wu32 _
theorem sl16 (w : Int) : shlZ .u32 w 16 = w * 65536 % 4294967296 := wu32 _
theorem sl11 (w : Int) : shlZ .u32 w 11 = w * 2048 % 4294967296 := wu32 _
theorem sl0 (w : Int) : shlZ .u32 w 0 = w % 4294967296 := by rw [show shlZ .u32 w 0 = (w * 1) % 4294967296 from wu32 _, Int.mul_one]
theorem band_u32 (j : Nat) (m : Int) (hm : (BitVec.ofInt 32 m).toNat = 2 ^ j - 1) (hj : 2 ^ j ≤ 4294967296) (x : Int) : band .u32 x m = x % 4294967296 % (2 ^ j : Nat) := by
 show IntKind.wrap .u32 ((BitVec.ofInt 32 x &&& BitVec.ofInt 32 m).toNat : Int) = _
 rw [BitVec.toNat_and, hm, Nat.and_two_pow_sub_one_eq_mod, wu32, BitVec.toNat_ofInt]
 have h : (((2 ^ 32 : Nat)) : Int) = 4294967296 := by decide
 rw [h]
 have hp : 0 < 2 ^ j := Nat.two_pow_pos j
 have h1 : (((x % 4294967296).toNat % 2 ^ j : Nat) : Int) = x % 4294967296 % (2 ^ j : Nat) := by
  rw [Int.natCast_emod, Int.toNat_of_nonneg (by omega)]
 rw [h1]
 have h2 := Int.emod_lt_of_pos (x % 4294967296) (show (0 : Int) < ((2 ^ j : Nat) : Int) by omega)
 have h3 := Int.emod_nonneg (x % 4294967296) (show ((2 ^ j : Nat) : Int) ≠ 0 by omega)
 omega
theorem ba31 (x : Int) : band .u32 x 31 = x % 32 := by rw [band_u32 5 31 (by decide) (by decide)]; show x % 4294967296 % 32 = _; omega
theorem ba16 (x : Int) : band .u32 x 65535 = x % 65536 := by rw [band_u32 16 65535 (by decide) (by decide)]; show x % 4294967296 % 65536 = _; omega
theorem or_add (k : Nat) {h l : Int} (h0 : 0 ≤ h) (h1 : h < 4294967296) (l0 : 0 ≤ l) (l1 : l < (2 ^ k : Nat)) (hk : h % (2 ^ k : Nat) = 0) (hl : h + l < 4294967296) : bor .u32 h l = h + l := by
 obtain ⟨a, rfl⟩ := Int.eq_ofNat_of_zero_le h0
 obtain ⟨b, rfl⟩ := Int.eq_ofNat_of_zero_le l0
 show IntKind.wrap .u32 ((BitVec.ofInt 32 (a : Int) ||| BitVec.ofInt 32 (b : Int)).toNat : Int) = _
 rw [BitVec.toNat_or, BitVec.toNat_ofInt, BitVec.toNat_ofInt]
 have e : (((2 ^ 32 : Nat)) : Int) = 4294967296 := by decide
 rw [e]
 have e1 : ((a : Int) % 4294967296).toNat = a := by omega
 have e2 : ((b : Int) % 4294967296).toNat = b := by omega
 rw [e1, e2]
 have hb : b < 2 ^ k := by omega
 have ha : a = 2 ^ k * (a / 2 ^ k) := by
  have : a % 2 ^ k = 0 := by omega
  have := Nat.div_add_mod a (2 ^ k)
  omega
 rw [ha, ← Nat.two_pow_add_eq_or_of_lt hb, ← ha, wu32]
 omega
theorem or_0 {h : Int} (h0 : 0 ≤ h) (h1 : h < 4294967296) : bor .u32 h 0 = h := by
 rw [or_add 0 h0 h1 (by omega) (by decide) (by show h % 1 = 0; omega) (by omega)]; omega
theorem or21 {h l : Int} (h0 : 0 ≤ h) (h1 : h < 4294967296) (l0 : 0 ≤ l) (l1 : l < 67108864) (hk : h % 67108864 = 0) : bor .u32 h l = h + l := or_add 26 h0 h1 l0 l1 hk (by omega)
theorem or16 {h l : Int} (h0 : 0 ≤ h) (h1 : h < 4294967296) (l0 : 0 ≤ l) (l1 : l < 2097152) (hk : h % 2097152 = 0) : bor .u32 h l = h + l := or_add 21 h0 h1 l0 l1 hk (by omega)
theorem or11 {h l : Int} (h0 : 0 ≤ h) (h1 : h < 4294967296) (l0 : 0 ≤ l) (l1 : l < 65536) (hk : h % 65536 = 0) : bor .u32 h l = h + l := or_add 16 h0 h1 l0 l1 hk (by omega)
theorem dec_no2 {w : Int} (h0 : 0 ≤ w) (h1 : w ≤ 4294967295) (h : ¬ (1 ≤ w / 67108864 ∧ w / 67108864 ≤ 43)) : 0 = decZ w 0 ∧ 0 = decZ w 1 ∧ 0 = decZ w 2 ∧ 0 = decZ w 3 ∧ 0 = decZ w 4 ∧ 2 = decZ w 5 := by
 have e : w % 4294967296 = w := by omega
 have hd : ¬ decP w := by unfold decP; simp only; omega
 unfold decZ
 simp [e, hd]
 omega
theorem dec_no3 {w : Int} (h0 : 0 ≤ w) (h1 : w ≤ 4294967295) (h : 1 ≤ w / 67108864 ∧ w / 67108864 ≤ 43) (hd : ¬ decP w) : 0 = decZ w 0 ∧ 0 = decZ w 1 ∧ 0 = decZ w 2 ∧ 0 = decZ w 3 ∧ 0 = decZ w 4 ∧ 3 = decZ w 5 := by
 have e : w % 4294967296 = w := by omega
 unfold decZ
 simp [e, hd, h]
theorem dec_yes {w : Int} (h0 : 0 ≤ w) (h1 : w ≤ 4294967295) (hd : decP w) : decZ w 0 = w / 67108864 ∧ decZ w 1 = w / 2097152 % 32 ∧ decZ w 2 = w / 65536 % 32 ∧ decZ w 3 = (if w / 67108864 ≤ 23 then w / 2048 % 32 else 0) ∧ decZ w 4 = decN w ∧ decZ w 5 = 0 := by
 have e : w % 4294967296 = w := by omega
 unfold decZ
 simp [e, hd]
theorem dec_fit {w a b c d n : Int} (h0 : 0 ≤ w) (h1 : w ≤ 4294967295) (hd : decP w) (e0 : a = w / 67108864) (e1 : b = w / 2097152 % 32) (e2 : c = w / 65536 % 32) (e3 : d = if w / 67108864 ≤ 23 then w / 2048 % 32 else 0) (e4 : n = decN w) :
  a = decZ w 0 ∧ b = decZ w 1 ∧ c = decZ w 2 ∧ d = decZ w 3 ∧ n = decZ w 4 ∧ 0 = decZ w 5 := by
 obtain ⟨g0, g1, g2, g3, g4, g5⟩ := dec_yes h0 h1 hd
 exact ⟨e0.trans g0.symm, e1.trans g1.symm, e2.trans g2.symm, e3.trans g3.symm, e4.trans g4.symm, g5.symm⟩
theorem okC_ne (q n : Int) : okC q n ≠ 0 ↔ okCo q n := by unfold okC; split <;> simp_all
def macZ (m : Mac) (nr : Int) : Int := qQq m.rg (qQq m.rm (qQq nr (qQq m.pc (qQq m.st (qQq m.co (qQq m.mq (qQq m.nm 0)))))))
theorem macZ_chn (m : Mac) (nr : Int) : macZ m nr = chn [m.rg, m.rm, nr, m.pc, m.st, m.co, m.mq, m.nm] := rfl
theorem macOf_macZ (m : Mac) (nr : Int) : macOf (macZ m nr) 0 = m := by
 have h := fun i : Nat => rd_chn [m.rg, m.rm, nr, m.pc, m.st, m.co, m.mq, m.nm] i
 rw [← macZ_chn] at h
 unfold macOf
 have h0 := h 0; have h1 := h 1; have h3 := h 3; have h4 := h 4; have h5 := h 5; have h6 := h 6; have h7 := h 7
 simp only [List.getD_eq_getElem?_getD, List.getElem?_cons_zero, List.getElem?_cons_succ, Option.getD_some] at h0 h1 h3 h4 h5 h6 h7
 have e0 : rdZ (macZ m nr) 0 = m.rg := h0
 have e1 : rdZ (macZ m nr) (0 + 1) = m.rm := h1
 have e3 : rdZ (macZ m nr) (0 + 3) = m.pc := h3
 have e4 : rdZ (macZ m nr) (0 + 4) = m.st := h4
 have e5 : rdZ (macZ m nr) (0 + 5) = m.co := h5
 have e6 : rdZ (macZ m nr) (0 + 6) = m.mq := h6
 have e7 : rdZ (macZ m nr) (0 + 7) = m.nm := h7
 rw [e0, e1, e3, e4, e5, e6, e7]
theorem macZ_nr (m : Mac) (nr : Int) : rdZ (macZ m nr) 2 = nr := by
 have h := rd_chn [m.rg, m.rm, nr, m.pc, m.st, m.co, m.mq, m.nm] 2
 rw [← macZ_chn] at h
 exact h
theorem stepZ_code (cq nc nr : Int) (m : Mac) : stepZ cq nc (macZ m nr) = (Mac.step cq nc nr m).code := by
 unfold stepZ; rw [macOf_macZ, macZ_nr]
theorem code_rd (m : Mac) : rdZ m.code 0 = m.rg ∧ rdZ m.code 1 = m.rm ∧ rdZ m.code 2 = m.pc ∧ rdZ m.code 3 = m.st ∧ rdZ m.code 4 = m.co ∧ rdZ m.code 5 = m.mq ∧ rdZ m.code 6 = m.nm := by
 unfold Mac.code
 simp only [rdZ_LZ]
 exact ⟨rfl, rfl, rfl, rfl, rfl, rfl, rfl⟩
theorem st_leaf {cq nc nr rg rm pc st co mq nm A B p s c Q n : Int} {G : Prop} (h : Mac.step cq nc nr ⟨rg, rm, pc, st, co, mq, nm⟩ = ⟨A, B, p, s, c, Q, n⟩)
  (p1 : -9223372036854775808 ≤ p ∧ p ≤ 9223372036854775807) (s1 : -9223372036854775808 ≤ s ∧ s ≤ 9223372036854775807) (c1 : -9223372036854775808 ≤ c ∧ c ≤ 9223372036854775807) (n1 : -9223372036854775808 ≤ n ∧ n ≤ 9223372036854775807) (hG : G) :
  let Z := stepZ cq nc (qQq rg (qQq rm (qQq nr (qQq pc (qQq st (qQq co (qQq mq (qQq nm 0))))))))
  qZz [.int .i32] A (rdZ Z 0) 32 ∧ qZz [.int .i32] B (rdZ Z 1) nr ∧ p = IntKind.wrap .i64 (rdZ Z 2) ∧ s = IntKind.wrap .i64 (rdZ Z 3) ∧ c = IntKind.wrap .i64 (rdZ Z 4) ∧ n = IntKind.wrap .i64 (rdZ Z 6) ∧
   qZz [.int .i64, .int .i64, .int .i64] Q (rdZ Z 5) (IntKind.wrap .i64 (rdZ Z 6)) ∧ G := by
 have e := stepZ_code cq nc nr ⟨rg, rm, pc, st, co, mq, nm⟩
 rw [h] at e
 unfold macZ at e
 simp only at e
 obtain ⟨r0, r1, r2, r3, r4, r5, r6⟩ := code_rd ⟨A, B, p, s, c, Q, n⟩
 simp only [e, r0, r1, r2, r3, r4, r5, r6]
 exact ⟨qJy _ _ _, qJy _ _ _, (w64 p1.1 p1.2).symm, (w64 s1.1 s1.2).symm, (w64 c1.1 c1.2).symm, (w64 n1.1 n1.2).symm, qJy _ _ _, hG⟩
theorem put_pos {m : Mac} {i x : Int} (h : i ≠ 0) : m.put i x = { m with rg := updZ m.rg i x } := by unfold Mac.put; rw [if_pos h]
theorem put_neg {m : Mac} {i x : Int} (h : i = 0) : m.put i x = m := by unfold Mac.put; rw [if_neg (by omega)]
theorem does_alu {m : Mac} {nr op d a b n : Int} (h : op ≤ 30) : m.does nr op d a b n = if aluK op (m.reg a) (m.reg b) = 0 then { m with st := 5 } else (m.put d (aluV op (m.reg a) (m.reg b))).on (aluC op (m.reg a)) := by unfold Mac.does; rw [if_pos h]
theorem does_31 {m : Mac} {nr d a b n : Int} : m.does nr 31 d a b n = (m.put d (IntKind.wrap .i32 (m.reg a + IntKind.wrap .i32 n))).on 1 := by
 unfold Mac.does
 rw [if_neg (by omega), if_pos (by omega)]
theorem does_32 {m : Mac} {nr d a b n : Int} : m.does nr 32 d a b n = (m.put d (BO.ev .or .i32 (m.reg a) (IntKind.wrap .i32 n))).on 1 := by
 unfold Mac.does
 rw [if_neg (by omega), if_neg (by omega), if_pos (by omega)]
theorem does_33 {m : Mac} {nr d a b n : Int} : m.does nr 33 d a b n = (m.put d (IntKind.wrap .i32 (BO.ev .shl .u32 (IntKind.wrap .u32 n) 16))).on 1 := by
 unfold Mac.does
 rw [if_neg (by omega), if_neg (by omega), if_neg (by omega), if_pos (by omega)]
theorem does_34 {m : Mac} {nr d a b n : Int} : m.does nr 34 d a b n = m.mem nr 34 d a n := by
 unfold Mac.does
 rw [if_neg (by omega), if_neg (by omega), if_neg (by omega), if_neg (by omega), if_pos (by omega)]
theorem does_35 {m : Mac} {nr d a b n : Int} : m.does nr 35 d a b n = m.mem nr 35 d a n := by
 unfold Mac.does
 rw [if_neg (by omega), if_neg (by omega), if_neg (by omega), if_neg (by omega), if_pos (by omega)]
theorem does_36 {m : Mac} {nr d a b n : Int} : m.does nr 36 d a b n = m.branch n (m.reg d = m.reg a) := by
 unfold Mac.does
 rw [if_neg (by omega), if_neg (by omega), if_neg (by omega), if_neg (by omega), if_neg (by omega), if_pos (by omega)]
theorem does_37 {m : Mac} {nr d a b n : Int} : m.does nr 37 d a b n = m.branch n (m.reg d ≠ m.reg a) := by
 unfold Mac.does
 rw [if_neg (by omega), if_neg (by omega), if_neg (by omega), if_neg (by omega), if_neg (by omega), if_neg (by omega), if_pos (by omega)]
theorem does_38 {m : Mac} {nr d a b n : Int} : m.does nr 38 d a b n = m.branch n (m.reg d < m.reg a) := by
 unfold Mac.does
 rw [if_neg (by omega), if_neg (by omega), if_neg (by omega), if_neg (by omega), if_neg (by omega), if_neg (by omega), if_neg (by omega), if_pos (by omega)]
theorem does_39 {m : Mac} {nr d a b n : Int} : m.does nr 39 d a b n = m.goes n (-1) (opCo 39) := by
 unfold Mac.does
 rw [if_neg (by omega), if_neg (by omega), if_neg (by omega), if_neg (by omega), if_neg (by omega), if_neg (by omega), if_neg (by omega), if_neg (by omega), if_neg (by omega), if_pos (by omega)]
theorem does_40 {m : Mac} {nr d a b n : Int} : m.does nr 40 d a b n = (m.put d (IntKind.wrap .i32 (m.pc + 1))).goes n (-1) (opCo 40) := by
 unfold Mac.does
 rw [if_neg (by omega), if_neg (by omega), if_neg (by omega), if_neg (by omega), if_neg (by omega), if_neg (by omega), if_neg (by omega), if_neg (by omega), if_pos (by omega)]
theorem does_41 {m : Mac} {nr d a b n : Int} : m.does nr 41 d a b n = m.goes (m.reg a) (-1) (opCo 41) := by
 unfold Mac.does
 rw [if_neg (by omega), if_neg (by omega), if_neg (by omega), if_neg (by omega), if_neg (by omega), if_neg (by omega), if_neg (by omega), if_neg (by omega), if_neg (by omega), if_neg (by omega), if_pos (by omega)]
theorem does_42 {m : Mac} {nr d a b n : Int} : m.does nr 42 d a b n = m.on (opCo 42) := by
 unfold Mac.does
 rw [if_neg (by omega), if_neg (by omega), if_neg (by omega), if_neg (by omega), if_neg (by omega), if_neg (by omega), if_neg (by omega), if_neg (by omega), if_neg (by omega), if_neg (by omega), if_neg (by omega), if_neg (by omega)]
theorem does_43 {m : Mac} {nr d a b n : Int} : m.does nr 43 d a b n = { (m.goes m.pc (-1) (opCo 43)) with st := 1 } := by
 unfold Mac.does
 rw [if_neg (by omega), if_neg (by omega), if_neg (by omega), if_neg (by omega), if_neg (by omega), if_neg (by omega), if_neg (by omega), if_neg (by omega), if_neg (by omega), if_neg (by omega), if_neg (by omega), if_pos (by omega)]
theorem i32_in64 (x : Int) : -9223372036854775808 ≤ IntKind.wrap .i32 x ∧ IntKind.wrap .i32 x ≤ 9223372036854775807 := by
 have := qXm .i32 x
 have k1 : klo .i32 = -2147483648 := by decide
 have k2 : khi .i32 = 2147483647 := by decide
 omega
def I64 (x : Int) : Prop := -9223372036854775808 ≤ x ∧ x ≤ 9223372036854775807
def Mac.ok (m : Mac) : Prop := I64 m.pc ∧ I64 m.st ∧ I64 m.co ∧ 0 ≤ m.nm
def Good (m a : Mac) : Prop := a.ok ∧ m.nm ≤ a.nm ∧ a.nm ≤ m.nm + 1
theorem qZx {c : Prop} [Decidable c] {m a b : Mac} (h1 : Good m a) (h2 : Good m b) : Good m (if c then a else b) := by
 by_cases h : c
 ·rw [if_pos h]; exact h1
 ·rw [if_neg h]; exact h2
theorem qJu (m : Mac) (i x : Int) : (m.put i x).pc = m.pc ∧ (m.put i x).st = m.st ∧ (m.put i x).co = m.co ∧ (m.put i x).nm = m.nm ∧ (m.put i x).mq = m.mq ∧ (m.put i x).rm = m.rm := by
 by_cases h : i = 0
 ·rw [put_neg h]; exact ⟨rfl, rfl, rfl, rfl, rfl, rfl⟩
 ·rw [put_pos h]; exact ⟨rfl, rfl, rfl, rfl, rfl, rfl⟩
theorem qZh {m m' : Mac} (h : m.ok) (hs : m'.st = m.st) (hn : m'.nm = m.nm) {next addr cost : Int} (h2 : I64 next) : Good m (m'.goes next addr cost) := by
 obtain ⟨h3, h4, h5, h6⟩ := h
 refine ⟨⟨h2, ?_, i64_bd _, ?_⟩, ?_, ?_⟩
 ·show I64 m'.st; rw [hs]; exact h4
 ·show 0 ≤ m'.nm + 1; omega
 ·show m.nm ≤ m'.nm + 1; omega
 ·show m'.nm + 1 ≤ m.nm + 1; omega
theorem i64_in (x : Int) : I64 (IntKind.wrap .i64 x) := i64_bd x
theorem i32_i64 (x : Int) : I64 (IntKind.wrap .i32 x) := i32_in64 x
theorem good_on {m : Mac} (h : m.ok) (i x cost : Int) : Good m ((m.put i x).on cost) := qZh h (qJu m i x).2.1 (qJu m i x).2.2.2.1 (i64_in _)
theorem good_on0 {m : Mac} (h : m.ok) (cost : Int) : Good m (m.on cost) := qZh h rfl rfl (i64_in _)
theorem good_st {m : Mac} (h : m.ok) {s : Int} (hs : I64 s) : Good m { m with st := s } := ⟨⟨h.1, hs, h.2.2.1, h.2.2.2⟩, Int.le_refl _, by show m.nm ≤ m.nm + 1; omega⟩
theorem good_does {m : Mac} (h : m.ok) {nr op d a b n : Int} (hn : I64 n) : Good m (m.does nr op d a b n) := by
 unfold Mac.does
 have h5 : I64 5 := by unfold I64; omega
 have h4 : I64 4 := by unfold I64; omega
 refine qZx (qZx (good_st h h5) (good_on h _ _ _)) ?_
 refine qZx (good_on h _ _ _) ?_
 refine qZx (good_on h _ _ _) ?_
 refine qZx (good_on h _ _ _) ?_
 refine qZx ?_ ?_
 ·unfold Mac.mem Mac.memA Mac.memo
  refine qZx (good_st h h4) ?_
  refine qZx ?_ ?_ <;> refine qZx ?_ ?_
  ·exact qZh (m' := { m with rm := updZ m.rm _ (m.reg d) }) (addr := IntKind.wrap .i32 (m.reg a + IntKind.wrap .i32 n)) h rfl rfl (i64_in _)
  ·exact qZh h (qJu m _ _).2.1 (qJu m _ _).2.2.2.1 (i64_in _)
  ·exact qZh (m' := { m with rm := updZ m.rm _ (m.reg d) }) (addr := IntKind.wrap .i32 (m.reg a + IntKind.wrap .i32 n)) h rfl rfl (i64_in _)
  ·exact qZh h (qJu m _ _).2.1 (qJu m _ _).2.2.2.1 (i64_in _)
 unfold Mac.branch
 refine qZx (qZx (by exact qZh (m' := m) (addr := -1) h rfl rfl hn) (good_on0 h _)) ?_
 refine qZx (qZx (by exact qZh (m' := m) (addr := -1) h rfl rfl hn) (good_on0 h _)) ?_
 refine qZx (qZx (by exact qZh (m' := m) (addr := -1) h rfl rfl hn) (good_on0 h _)) ?_
 refine qZx (by exact qZh h (qJu m _ _).2.1 (qJu m _ _).2.2.2.1 hn) ?_
 refine qZx (by exact qZh (m' := m) (addr := -1) h rfl rfl hn) ?_
 refine qZx (by exact qZh (m' := m) (addr := -1) h rfl rfl (i32_i64 _)) ?_
 refine qZx ?_ (good_on0 h _)
 obtain ⟨⟨g1, g2, g3, g4⟩, g5, g6⟩ := qZh (m' := m) (addr := -1) (cost := opCo op) h rfl rfl h.1
 exact ⟨⟨g1, by show I64 1; unfold I64; omega, g3, g4⟩, g5, g6⟩
theorem good_step {m : Mac} (h : m.ok) (cq nc nr : Int) : Good m (m.step cq nc nr) := by
 unfold Mac.step
 refine qZx ⟨h, Int.le_refl _, by omega⟩ ?_
 refine qZx (good_st h (by unfold I64; omega)) ?_
 refine qZx (good_st h (by unfold I64; omega)) ?_
 exact good_does h (i64_in _)
theorem step_stop {m : Mac} (h : m.st ≠ 0) (cq nc nr : Int) : m.step cq nc nr = m := by unfold Mac.step; rw [if_pos h]
theorem runs_succ (cq nc nr : Int) (k : Nat) (m : Mac) : Mac.runs cq nc nr (k + 1) m = if (Mac.runs cq nc nr k m).1.st = 0 then ((Mac.runs cq nc nr k m).1.step cq nc nr, (Mac.runs cq nc nr k m).2 + 1) else Mac.runs cq nc nr k m := rfl
theorem runs_ok {m : Mac} (h : m.ok) (cq nc nr : Int) : ∀ k, (Mac.runs cq nc nr k m).1.ok ∧ m.nm ≤ (Mac.runs cq nc nr k m).1.nm ∧ (Mac.runs cq nc nr k m).1.nm ≤ m.nm + (Mac.runs cq nc nr k m).2 ∧ (Mac.runs cq nc nr k m).2 ≤ k
 | 0 => ⟨h, Int.le_refl _, by show m.nm ≤ m.nm + ((0 : Nat) : Int); omega, Nat.le_refl _⟩
 | k + 1 => by
  obtain ⟨h1, h2, h3, h4⟩ := runs_ok h cq nc nr k
  rw [runs_succ]
  by_cases hs : (Mac.runs cq nc nr k m).1.st = 0
  ·rw [if_pos hs]
   obtain ⟨g1, g2, g3⟩ := good_step h1 cq nc nr
   exact ⟨g1, by simp only; omega, by simp only; omega, by simp only; omega⟩
  ·rw [if_neg hs]; exact ⟨h1, h2, h3, by omega⟩
theorem runs_stop {cq nc nr : Int} {m : Mac} {j : Nat} (hs : (Mac.runs cq nc nr j m).1.st ≠ 0) : ∀ d, Mac.runs cq nc nr (j + d) m = Mac.runs cq nc nr j m
 | 0 => rfl
 | d + 1 => by
  have ih := runs_stop hs d
  rw [← Nat.add_assoc, runs_succ, ih, if_neg hs]
theorem macM_ok (M : Int) : (macM M).ok := ⟨i64_in _, i64_in _, i64_in _, (mkN_bd M).1⟩
theorem codeM_rd (m : Mac) (k : Int) : rdZ (codeM m k) 0 = m.rg ∧ rdZ (codeM m k) 1 = m.rm ∧ rdZ (codeM m k) 2 = m.pc ∧ rdZ (codeM m k) 3 = m.st ∧ rdZ (codeM m k) 4 = m.co ∧ rdZ (codeM m k) 5 = m.mq ∧ rdZ (codeM m k) 6 = m.nm ∧ rdZ (codeM m k) 7 = k := by
 unfold codeM
 simp only [rdZ_LZ]
 exact ⟨rfl, rfl, rfl, rfl, rfl, rfl, rfl, rfl⟩
theorem macM_code {m : Mac} (h : m.ok) (hn : m.nm ≤ 999999) (k : Int) : macM (codeM m k) = m := by
 obtain ⟨r0, r1, r2, r3, r4, r5, r6, r7⟩ := codeM_rd m k
 obtain ⟨h1, h2, h3, h4⟩ := h
 unfold macM mkN mkN0
 rw [r0, r1, r2, r3, r4, r5, r6, w64 h1.1 h1.2, w64 h2.1 h2.2, w64 h3.1 h3.2, if_pos ⟨h4, hn⟩]
theorem mkN_code {m : Mac} (h : m.ok) (hn : m.nm ≤ 999999) (k : Int) : mkN (codeM m k) = m.nm := congrArg Mac.nm (macM_code h hn k)
theorem nu_rd (rm : Int) : rdZ (nuP rm) 0 = zeroZ 32 ∧ rdZ (nuP rm) 1 = rm ∧ rdZ (nuP rm) 2 = 0 ∧ rdZ (nuP rm) 3 = 0 ∧ rdZ (nuP rm) 4 = 0 ∧ rdZ (nuP rm) 5 = 0 ∧ rdZ (nuP rm) 6 = 0 := by
 unfold nuP
 simp only [rdZ_LZ]
 exact ⟨rfl, rfl, rfl, rfl, rfl, rfl, rfl⟩
theorem macM_nu (rm : Int) : macM (nuP rm) = ⟨zeroZ 32, rm, 0, 0, 0, 0, 0⟩ := by
 obtain ⟨r0, r1, r2, r3, r4, r5, r6⟩ := nu_rd rm
 unfold macM mkN mkN0
 rw [r0, r1, r2, r3, r4, r5, r6]
 rfl
theorem rd3 (x y z : Int) : rdZ (qQq x (qQq y (qQq z 0))) 0 = x ∧ rdZ (qQq x (qQq y (qQq z 0))) 1 = y ∧ rdZ (qQq x (qQq y (qQq z 0))) 2 = z := by
 have h := rd_chn [x, y, z]
 exact ⟨h 0, h 1, h 2⟩
theorem runP_code (cq nc nr fuel M : Int) : runP cq nc (qQq nr (qQq fuel (qQq M 0))) = codeM (Mac.runs cq nc nr fuel.toNat (macM M)).1 (Mac.runs cq nc nr fuel.toNat (macM M)).2 := by
 obtain ⟨r0, r1, r2⟩ := rd3 nr fuel M
 unfold runP
 rw [r0, r1, r2]
theorem runp_leaf {cq nc nr fuel M A B p s c Q n y : Int} {k : Nat} (h : Mac.runs cq nc nr fuel.toNat (macM M) = (⟨A, B, p, s, c, Q, n⟩, k)) (hk : y = k) (hk1 : k ≤ 1000000)
  (p1 : I64 p) (s1 : I64 s) (c1 : I64 c) (n0 : 0 ≤ n) (n1 : n ≤ 999999) :
  let Z := runP cq nc (qQq nr (qQq fuel (qQq M 0)))
  y = IntKind.wrap .i64 (rdZ Z 7) ∧ qZz [.int .i32] A (rdZ Z 0) 32 ∧ qZz [.int .i32] B (rdZ Z 1) nr ∧ p = IntKind.wrap .i64 (rdZ Z 2) ∧ s = IntKind.wrap .i64 (rdZ Z 3) ∧ c = IntKind.wrap .i64 (rdZ Z 4) ∧ n = mkN Z ∧
   qZz [.int .i64, .int .i64, .int .i64] Q (rdZ Z 5) (mkN Z) := by
 have e := runP_code cq nc nr fuel M
 rw [h] at e
 simp only at e
 obtain ⟨r0, r1, r2, r3, r4, r5, r6, r7⟩ := codeM_rd ⟨A, B, p, s, c, Q, n⟩ (k : Int)
 subst hk
 simp only [e, r0, r1, r2, r3, r4, r5, r6, r7, mkN_code (m := ⟨A, B, p, s, c, Q, n⟩) ⟨p1, s1, c1, n0⟩ n1 (k : Int)]
 exact ⟨(w64 (by omega) (by omega)).symm, qJy _ _ _, qJy _ _ _, (w64 p1.1 p1.2).symm, (w64 s1.1 s1.2).symm, (w64 c1.1 c1.2).symm, trivial, qJy _ _ _⟩
theorem decC_rd (w : Int) : ∀ (n i : Nat), i < n → rdZ (decC w n) i = decR (IntKind.wrap .u32 (rdZ w i))
 | n + 1, i, h => by
  rw [decC, qZr, Int.toNat_natCast, Int.toNat_natCast]
  by_cases e : i = n
  ·subst e; rw [if_pos rfl]
  ·rw [if_neg e, decC_rd w n i (by omega)]
theorem decR_rd (w : Int) : rdZ (decR w) 0 = decZ w 0 ∧ rdZ (decR w) 1 = decZ w 1 ∧ rdZ (decR w) 2 = decZ w 2 ∧ rdZ (decR w) 3 = decZ w 3 ∧ rdZ (decR w) 4 = decZ w 4 ∧ rdZ (decR w) 5 = qQj (decZ w 5 == 0) := by
 have h := rd_chn [decZ w 0, decZ w 1, decZ w 2, decZ w 3, decZ w 4, qQj (decZ w 5 == 0)]
 exact ⟨h 0, h 1, h 2, h 3, h 4, h 5⟩
theorem decR_ok (x : Int) : okRow (decR (IntKind.wrap .u32 x)) := by
 obtain ⟨r0, r1, r2, r3, r4, r5⟩ := decR_rd (IntKind.wrap .u32 x)
 have hb := qXm .u32 x
 have b1 : klo .u32 = 0 := by decide
 have b2 : khi .u32 = 4294967295 := by decide
 generalize IntKind.wrap .u32 x = w at *
 have z := decZ_bd w
 unfold okRow
 rw [r0, r1, r2, r3, r4, r5]
 intro h
 have hd : decZ w 5 = 0 := by
  by_cases e : decZ w 5 = 0
  ·exact e
  ·simp [qQj, e] at h
 have hP : decP w := by
  by_cases e : decP w
  ·exact e
  ·exfalso
   have e2 : w % 4294967296 = w := by omega
   unfold decZ at hd
   simp [e2, e] at hd
   split at hd <;> omega
 obtain ⟨g0, g1, g2, g3, g4, g5⟩ := dec_yes (by omega) (by omega) hP
 have z0 := z 0; have z1 := z 1; have z2 := z 2; have z3 := z 3; have z4 := z 4
 rw [w64 (x := decZ w 0) (by omega) (by omega), w64 (x := decZ w 1) (by omega) (by omega), w64 (x := decZ w 2) (by omega) (by omega), w64 (x := decZ w 3) (by omega) (by omega), w64 (x := decZ w 4) (by omega) (by omega)]
 refine ⟨?_, ⟨by omega, by omega⟩, ⟨by omega, by omega⟩, ?_, z4⟩
 ·rw [g0]; unfold decP at hP; simp only at hP; omega
 ·rw [g3]; split <;> omega
theorem okC_dec (w : Int) (n : Nat) : okC (decC w n) n ≠ 0 := (okC_ne _ _).2 fun i hi => by
 rw [decC_rd w n i (by omega)]; exact decR_ok _
structure Inv (w c1 n0 n1 : Int) (m : Mac) : Prop where
 ok : m.ok
 co : m.co = costF m.mq m.nm.toNat
 mks : ∀ i : Nat, (i : Int) < m.nm → (0 ≤ mk m.mq i 0 ∧ mk m.mq i 0 < n0) ∧ (-1 ≤ mk m.mq i 1 ∧ mk m.mq i 1 < n1) ∧ (1 ≤ mk m.mq i 2 ∧ mk m.mq i 2 ≤ 34)
 mem : ∀ i : Int, 0 ≤ i → i < n1 → (∃ k : Nat, (k : Int) < m.nm ∧ mk m.mq k 1 = i ∧ IntKind.wrap .u32 (rdZ w (mk m.mq k 0)) / 67108864 = 35) ∨ IntKind.wrap .i32 (rdZ m.rm i) = IntKind.wrap .i32 (rdZ c1 i)
section
variable {w c1 n0 n1 : Int} {m : Mac}
theorem aluL_32 {a : Int} (h1 : -2147483648 ≤ a) (h2 : a ≤ 2147483647) : aluL a ≤ 32 := by
 unfold aluL
 have e : IntKind.wrap .u64 (if 0 - a > a then 0 - a else a) = (if 0 - a > a then 0 - a else a) := qXi .u64 _ (by split <;> (show (0 : Int) ≤ _; omega)) (by split <;> (show _ ≤ (18446744073709551615 : Int); omega))
 rw [e]
 have := bitLenB 32 ((if 0 - a > a then 0 - a else a) % 18446744073709551616).toNat (by split <;> omega) (by split <;> omega)
 omega
theorem aluC_34 {op a : Int} (o1 : 1 ≤ op) (o2 : op ≤ 43) (h1 : -2147483648 ≤ a) (h2 : a ≤ 2147483647) : 1 ≤ aluC op a ∧ aluC op a ≤ 34 := by
 have l1 := aluL_32 h1 h2
 have l2 := (aluL_bd a).1
 unfold aluC opCo
 split <;> split <;> (try split) <;> (try split) <;> omega
end
end Go.Eng
end
/-!  -/
noncomputable section
namespace Go.Eng
abbrev b32 (x : Int) : BitVec 32 := BitVec.ofInt 32 x
def bt (Z : BitVec 32) (i : Nat) : Int := if Z.getLsbD i then 1 else 0
end Go.Eng
end
/-!  -/
noncomputable section
namespace Go.Eng
section
variable {rg rm pc st co mq nm d a b n nr : Int}
end
theorem dec_in (x : Int) (h : decZ (IntKind.wrap .u32 x) 5 = 0) : (1 ≤ decZ (IntKind.wrap .u32 x) 0 ∧ decZ (IntKind.wrap .u32 x) 0 ≤ 43) ∧ (0 ≤ decZ (IntKind.wrap .u32 x) 1 ∧ decZ (IntKind.wrap .u32 x) 1 < 32) ∧ (0 ≤ decZ (IntKind.wrap .u32 x) 2 ∧ decZ (IntKind.wrap .u32 x) 2 < 32) ∧
  (0 ≤ decZ (IntKind.wrap .u32 x) 3 ∧ decZ (IntKind.wrap .u32 x) 3 < 32) ∧ (-32768 ≤ decZ (IntKind.wrap .u32 x) 4 ∧ decZ (IntKind.wrap .u32 x) 4 ≤ 65535) := by
 have hr := decR_ok x
 obtain ⟨r0, r1, r2, r3, r4, r5⟩ := decR_rd (IntKind.wrap .u32 x)
 have z := decZ_bd (IntKind.wrap .u32 x)
 have v : ∀ j, IntKind.wrap .i64 (decZ (IntKind.wrap .u32 x) j) = decZ (IntKind.wrap .u32 x) j := fun j => w64 (by have := z j; omega) (by have := z j; omega)
 unfold okRow at hr
 rw [r0, r1, r2, r3, r4, r5, v 0, v 1, v 2, v 3, v 4] at hr
 exact hr (by simp [qQj, h])
section
variable {c0 c1 n1 i rg rm pc st co mq nm xrg xrm xpc xst xmq xnm xg xm xp xs xq xn B S : Int} {k : Nat}
end
section
variable {wq nr rg rm pc st mq nm A B B' p s Q n : Int} {k : Nat}
end
section
variable {rg rm pc st co co' mq nm d a b n nr op : Int}
end
section
variable {wq nr rg rm pc st mq nm A p s Q n nc : Int} {k : Nat}
end
end Go.Eng
end
/-!  -/
noncomputable section
namespace Go.Eng
def RwK (k : IntKind) (q : Int) (L : List Int) : Prop := ∀ i : Nat, i < L.length → k.wrap (rdZ q i) = L.getD i 0
theorem RwK.eq {k : IntKind} {q n : Int} {L : List Int} (h : RwK k q L) (hn : n ≤ L.length) : qZz [.int k] q (LZ L) n := rowEq_one fun i hi => by
 have hl : i < L.length := by omega
 rw [Rw.lz L i hl, ← h i hl, wrap_wrap _ _ _ (by exact Nat.le_refl _)]
end Go.Eng
end
