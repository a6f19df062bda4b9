/-
  Parts of the engine, a program's symbolic run, proved sound; and of plain laws.
-/
import Derived.Test.YtkjbmbmdmhfbeaaDoorGp2
set_option linter.unusedVariables false
set_option linter.unusedSimpArgs false
/-!  -/
noncomputable section
namespace Go.Eng
theorem byt_bd (c i : Int) : 0 ≤ byt c i ∧ byt c i ≤ 255 := u8_bd _
theorem be1 (c o : Int) : beN c o 1 = byt c o := by simp [beN]
theorem be2 (c o : Int) : beN c o 2 = 256 * byt c o + byt c (o + 1) := by simp [beN]
theorem be4 (c o : Int) : beN c o 4 = 256 * (256 * (256 * byt c o + byt c (o + 1)) + byt c (o + 2)) + byt c (o + 3) := by simp [beN]
theorem be1_bd (c o : Int) : 0 ≤ beN c o 1 ∧ beN c o 1 ≤ 255 := by rw [be1]; exact byt_bd c o
theorem be2_bd (c o : Int) : 0 ≤ beN c o 2 ∧ beN c o 2 ≤ 65535 := by
 rw [be2]
 have := byt_bd c o
 have := byt_bd c (o + 1)
 omega
theorem be4_bd (c o : Int) : 0 ≤ beN c o 4 ∧ beN c o 4 ≤ 4294967295 := by
 rw [be4]
 have := byt_bd c o
 have := byt_bd c (o + 1)
 have := byt_bd c (o + 2)
 have := byt_bd c (o + 3)
 omega
theorem bor_add {a b : Nat} (ha : a < 36028797018963968) (hb : b < 256) : bor .i64 ((a * 256 : Nat) : Int) (b : Int) = ((a * 256 + b : Nat) : Int) := by
 show IntKind.wrap .i64 ((BitVec.ofInt 64 ((a * 256 : Nat) : Int) ||| BitVec.ofInt 64 (b : Int)).toNat : Int) = _
 rw [BitVec.toNat_or, BitVec.ofInt_natCast, BitVec.ofInt_natCast, BitVec.toNat_ofNat, BitVec.toNat_ofNat, Nat.mod_eq_of_lt (by omega), Nat.mod_eq_of_lt (by omega)]
 have e : a * 256 ||| b = a * 256 + b := by
  have := Nat.two_pow_add_eq_or_of_lt (i := 8) hb a
  rw [Nat.mul_comm a 256]
  exact this.symm
 rw [e]
 exact w64 (by omega) (by omega)
theorem bor0 (x : Int) : bor .i64 0 (IntKind.wrap .u8 x) = IntKind.wrap .u8 x := by
 have := u8_bd x
 obtain ⟨n, hn⟩ : ∃ n : Nat, IntKind.wrap .u8 x = n := ⟨(IntKind.wrap .u8 x).toNat, by omega⟩
 rw [hn]
 have := bor_add (a := 0) (b := n) (by decide) (by omega)
 simpa using this
theorem bor8 {a : Int} (h0 : 0 ≤ a) (h1 : a < 16777216) (x : Int) : bor .i64 (shlZ .i64 a 8) (IntKind.wrap .u8 x) = 256 * a + IntKind.wrap .u8 x := by
 have := u8_bd x
 obtain ⟨n, hn⟩ : ∃ n : Nat, IntKind.wrap .u8 x = n := ⟨(IntKind.wrap .u8 x).toNat, by omega⟩
 obtain ⟨m, rfl⟩ : ∃ m : Nat, a = m := ⟨a.toNat, by omega⟩
 rw [hn]
 have e : shlZ .i64 (m : Int) 8 = ((m * 256 : Nat) : Int) := by
  show IntKind.wrap .i64 ((m : Int) * 256) = _
  rw [w64 (by omega) (by omega)]; omega
 rw [e, bor_add (by omega) (by omega)]
 omega
theorem borB (x y : Int) : bor .i64 (shlZ .i64 (IntKind.wrap .u8 x) 8) (IntKind.wrap .u8 y) = 256 * IntKind.wrap .u8 x + IntKind.wrap .u8 y := by
 have := u8_bd x
 exact bor8 this.1 (by omega) y
theorem borC (x y z : Int) : bor .i64 (shlZ .i64 (256 * IntKind.wrap .u8 x + IntKind.wrap .u8 y) 8) (IntKind.wrap .u8 z) = 256 * (256 * IntKind.wrap .u8 x + IntKind.wrap .u8 y) + IntKind.wrap .u8 z := by
 have := u8_bd x
 have := u8_bd y
 exact bor8 (by omega) (by omega) z
theorem borD (x y z u : Int) : bor .i64 (shlZ .i64 (256 * (256 * IntKind.wrap .u8 x + IntKind.wrap .u8 y) + IntKind.wrap .u8 z) 8) (IntKind.wrap .u8 u) = 256 * (256 * (256 * IntKind.wrap .u8 x + IntKind.wrap .u8 y) + IntKind.wrap .u8 z) + IntKind.wrap .u8 u := by
 have := u8_bd x
 have := u8_bd y
 have := u8_bd z
 exact bor8 (by omega) (by omega) u
theorem w4 (c o : Int) : 256 * (256 * (256 * IntKind.wrap .u8 (rdZ c o) + IntKind.wrap .u8 (rdZ c (o + 1))) + IntKind.wrap .u8 (rdZ c (o + 2))) + IntKind.wrap .u8 (rdZ c (o + 3)) = beN c o 4 := (be4 c o).symm
theorem w2 (c o : Int) : 256 * IntKind.wrap .u8 (rdZ c o) + IntKind.wrap .u8 (rdZ c (o + 1)) = beN c o 2 := (be2 c o).symm
theorem w1 (c o : Int) : IntKind.wrap .u8 (rdZ c o) = beN c o 1 := (be1 c o).symm
theorem mag_iff (c : Int) : (∀ i : Nat, (i : Int) < 4 → IntKind.wrap .u8 (rdZ c i) = IntKind.wrap .u8 (rdZ (qQz 65 (qQz 83 (qQz 84 (qQz 49 0)))) i)) ↔ beN c 0 4 = 1095980081 := by
 rw [show (qQz 65 (qQz 83 (qQz 84 (qQz 49 0)))) = chn [65, 83, 84, 49] from rfl]
 simp only [rd_chn]
 rw [be4]
 have b0 := byt_bd c 0
 have b1 := byt_bd c (0 + 1)
 have b2 := byt_bd c (0 + 2)
 have b3 := byt_bd c (0 + 3)
 constructor
 ·intro h
  have h0 := h 0 (by decide)
  have h1 := h 1 (by decide)
  have h2 := h 2 (by decide)
  have h3 := h 3 (by decide)
  have e0 : byt c 0 = 65 := h0
  have e1 : byt c (0 + 1) = 83 := h1
  have e2 : byt c (0 + 2) = 84 := h2
  have e3 : byt c (0 + 3) = 49 := h3
  omega
 ·intro h i hi
  have e0 : byt c 0 = 65 := by omega
  have e1 : byt c (0 + 1) = 83 := by omega
  have e2 : byt c (0 + 2) = 84 := by omega
  have e3 : byt c (0 + 3) = 49 := by omega
  have : i = 0 ∨ i = 1 ∨ i = 2 ∨ i = 3 := by omega
  rcases this with rfl | rfl | rfl | rfl
  ·exact e0
  ·exact e1
  ·exact e2
  ·exact e3
theorem mag_seq (c : Int) : (seqZ (qQz 4 (qQz c 0)) (qQz 4 (qQz (qQz 65 (qQz 83 (qQz 84 (qQz 49 0)))) 0)) = 0) ↔ ¬ beN c 0 4 = 1095980081 := by
 rw [seq_row0 (by decide) (by decide) (by decide) (by decide), mag_iff]
 simp
section
variable (c : Int)
theorem gnC_bd : 0 ≤ gnC c ∧ gnC c ≤ 65535 := be2_bd _ _
theorem gnD_bd : 0 ≤ gnD c ∧ gnD c ≤ 65535 := be2_bd _ _
theorem gnI_bd : 0 ≤ gnI c ∧ gnI c ≤ 255 := be1_bd _ _
theorem gnO_bd : 0 ≤ gnO c ∧ gnO c ≤ 255 := be1_bd _ _
theorem gpD_ev : gpD c = 6 + 4 * gnC c := rfl
theorem gpI_ev : gpI c = gpD c + 2 + 5 * gnD c := rfl
theorem gpO_ev : gpO c = gpI c + 1 + 2 * gnI c := rfl
theorem gpE_ev : gpE c = gpO c + 1 + 2 * gnO c := rfl
def qXh (l : Int) (i : Nat) : Prop := gpD c + 2 + 5 * (i + 1) ≤ l ∧ 1 < byt c (gpD c + 2 + 5 * i + 4)
theorem sec_iff (l : Int) : (0 < ((List.range (gnD c).toNat).filter fun (i : Nat) => decide (gpD c + 2 + 5 * (i + 1) ≤ l ∧ 1 < byt c (gpD c + 2 + 5 * i + 4))).length) ↔ ∃ i : Nat, (i : Int) < gnD c ∧ qXh c l i := by
 rw [List.length_pos_iff_exists_mem]
 constructor
 ·rintro ⟨i, hi⟩
  simp only [List.mem_filter, List.mem_range, decide_eq_true_eq] at hi
  exact ⟨i, by omega, hi.2⟩
 ·rintro ⟨i, h1, h2⟩
  refine ⟨i, ?_⟩
  simp only [List.mem_filter, List.mem_range, decide_eq_true_eq]
  exact ⟨by omega, h2⟩
variable {c} {l : Int}
theorem g_s0 (h : l < 4) : gtF c l = 4 := by unfold gtF; rw [if_pos h]
theorem g_form (h : 4 ≤ l) (hm : ¬ beN c 0 4 = 1095980081) : gtF c l = 3 := by unfold gtF; rw [if_neg (by omega), if_pos hm]
theorem g_s1 (h : 4 ≤ l) (hm : beN c 0 4 = 1095980081) (h1 : l < 6) : gtF c l = 4 := by unfold gtF; rw [if_neg (by omega), if_neg (fun g => g hm), if_pos h1]
theorem g_s2 (hm : beN c 0 4 = 1095980081) (h : 6 ≤ l) (h1 : l < gpD c + 2) : gtF c l = 4 := by
 unfold gtF; rw [if_neg (by omega), if_neg (fun g => g hm), if_neg (by omega), if_pos h1]
theorem g_sec (hm : beN c 0 4 = 1095980081) (h : gpD c + 2 ≤ l) {i : Nat} (hi : (i : Int) < gnD c) (hb : qXh c l i) : gtF c l = 3 := by
 have := gpD_ev c
 have := gnC_bd c
 unfold gtF; rw [if_neg (by omega), if_neg (fun g => g hm), if_neg (by omega), if_neg (by omega), if_pos ((sec_iff c l).2 ⟨i, hi, hb⟩)]
theorem g_rest (hm : beN c 0 4 = 1095980081) (h : gpD c + 2 ≤ l) (hs : ∀ i : Nat, (i : Int) < gnD c → ¬ qXh c l i) :
  gtF c l = if l < gpI c + 1 then 4 else if l < gpO c + 1 then 4 else if l < gpE c then 4 else if gpE c < l then 5 else chkZ (gnC c) (gnD c) (qQz (gnD c) (qQz (gnI c) (qQz (gnO c) (qQz (gtC c 3) (qQz (gtC c 4) 0))))) := by
 have := gpD_ev c
 have := gnC_bd c
 unfold gtF; rw [if_neg (by omega), if_neg (fun g => g hm), if_neg (by omega), if_neg (by omega), if_neg (fun g => by obtain ⟨i, h1, h2⟩ := (sec_iff c l).1 g; exact hs i h1 h2)]
theorem g_s3 (hm : beN c 0 4 = 1095980081) (h : gpD c + 2 ≤ l) (hs : ∀ i : Nat, (i : Int) < gnD c → ¬ qXh c l i) (h1 : l < gpI c + 1) : gtF c l = 4 := by rw [g_rest hm h hs, if_pos h1]
theorem g_s4 (hm : beN c 0 4 = 1095980081) (hs : ∀ i : Nat, (i : Int) < gnD c → ¬ qXh c l i) (h : gpI c + 1 ≤ l) (h1 : l < gpO c + 1) : gtF c l = 4 := by
 have := gpI_ev c; have := gnD_bd c
 rw [g_rest hm (by omega) hs, if_neg (by omega), if_pos h1]
theorem g_s5 (hm : beN c 0 4 = 1095980081) (hs : ∀ i : Nat, (i : Int) < gnD c → ¬ qXh c l i) (h : gpO c + 1 ≤ l) (h1 : l < gpE c) : gtF c l = 4 := by
 have := gpI_ev c; have := gnD_bd c; have := gpO_ev c; have := gnI_bd c
 rw [g_rest hm (by omega) hs, if_neg (by omega), if_neg (by omega), if_pos h1]
theorem g_long (hm : beN c 0 4 = 1095980081) (hs : ∀ i : Nat, (i : Int) < gnD c → ¬ qXh c l i) (h1 : gpE c < l) : gtF c l = 5 := by
 have := gpI_ev c; have := gnD_bd c; have := gpO_ev c; have := gnI_bd c; have := gpE_ev c; have := gnO_bd c
 rw [g_rest hm (by omega) hs, if_neg (by omega), if_neg (by omega), if_neg (by omega), if_pos h1]
theorem g_chk (hm : beN c 0 4 = 1095980081) (hs : ∀ i : Nat, (i : Int) < gnD c → ¬ qXh c l i) (h1 : l = gpE c) : gtF c l = chk7 (gnC c) (gnD c) (gnD c) (gnI c) (gnO c) (gtC c 3) (gtC c 4) := by
 have := gpI_ev c; have := gnD_bd c; have := gpO_ev c; have := gnI_bd c; have := gpE_ev c; have := gnO_bd c
 rw [g_rest hm (by omega) hs, if_neg (by omega), if_neg (by omega), if_neg (by omega), if_neg (by omega), chk_ev]
end
theorem ope_len {c n : Int} (h : opeZ c n = 0) : 2 ≤ n := by
 unfold opeZ at h
 split at h
 ·cases h
 ·omega
theorem gtE_open {c n : Int} (h : ¬ opeZ c n = 0) : gtE c n = opeZ c n := by unfold gtE; rw [if_pos h]
theorem gtE_in {c n : Int} (h : opeZ c n = 0) : gtE c n = gtF c (n - 2) := by unfold gtE; rw [if_neg (fun g => g h)]
theorem gtN_bad {c n : Int} (h : ¬ gtE c n = 0) (k : Int) : gtN c n k = 0 := by unfold gtN; rw [if_pos h]
theorem gtN_ok {c n : Int} (h : gtE c n = 0) (k : Int) : gtN c n k = gnF c k := by unfold gtN; rw [if_neg (fun g => g h)]
theorem leafE {c n e : Int} (he : gtE c n = e) (h : ¬ e = 0) :
  0 = gtN c n 0 ∧ qZk [.int .u32] 0 (gtC c 0) 0 ∧ 0 = gtN c n 1 ∧ qZk [.int .i32] 0 (gtC c 1) 0 ∧ 0 = gtN c n 2 ∧ qZk [.bool] 0 (gtC c 2) 0 ∧ 0 = gtN c n 3 ∧ qZk [.int .i64] 0 (gtC c 3) 0 ∧ 0 = gtN c n 4 ∧ qZk [.int .i64] 0 (gtC c 4) 0 ∧ e = gtE c n := by
 have hb : ¬ gtE c n = 0 := by rw [he]; exact h
 refine ⟨(gtN_bad hb 0).symm, qJq _ _ _ (by omega), (gtN_bad hb 1).symm, qJq _ _ _ (by omega), (gtN_bad hb 2).symm, qJq _ _ _ (by omega), (gtN_bad hb 3).symm, qJq _ _ _ (by omega), (gtN_bad hb 4).symm, qJq _ _ _ (by omega), he.symm⟩
theorem qKk (c k : Int) {i : Nat} (h : (i : Int) < gnF c k) : rdZ (gtC c k) i = gtR c k i := by
 unfold gtC
 exact LZ_map_rd _ _ (by omega)
theorem rowEq_bool {y q n : Int} (h : ∀ i : Nat, (i : Int) < n → (rdZ y i ≠ 0 ↔ rdZ q i ≠ 0)) : qZk [.bool] y q n := fun i hi => by
 simp only [qQa, ckV]
 congr 2
 have := h i hi
 by_cases e : rdZ q i = 0
 ·have : rdZ y i = 0 := by
   by_cases g : rdZ y i = 0
   ·exact g
   ·exact absurd e (this.1 g)
  rw [e, this]
 ·have g := this.2 e
  rw [bne_iff_ne.2 e, bne_iff_ne.2 g]
theorem chk_congr {nC nD nS nI nO cI cO dI dO : Int} (hI : ∀ k : Nat, (k : Int) < nI → IntKind.wrap .i64 (rdZ cI k) = IntKind.wrap .i64 (rdZ dI k)) (hO : ∀ k : Nat, (k : Int) < nO → IntKind.wrap .i64 (rdZ cO k) = IntKind.wrap .i64 (rdZ dO k)) :
  chk7 nC nD nS nI nO cI cO = chk7 nC nD nS nI nO dI dO := by
 have a1 : adP cI nI nD ↔ adP dI nI nD := by
  unfold adP inR
  constructor
  ·intro h i hi; rw [← hI i hi]; exact h i hi
  ·intro h i hi; rw [hI i hi]; exact h i hi
 have a2 : adP cO nO nD ↔ adP dO nO nD := by
  unfold adP inR
  constructor
  ·intro h i hi; rw [← hO i hi]; exact h i hi
  ·intro h i hi; rw [hO i hi]; exact h i hi
 have a3 : twP cI nI ↔ twP dI nI := by
  unfold twP
  constructor
  ·rintro ⟨i, k, h1, h2, h3⟩; exact ⟨i, k, h1, h2, by rw [← hI i h2, ← hI k (by omega)]; exact h3⟩
  ·rintro ⟨i, k, h1, h2, h3⟩; exact ⟨i, k, h1, h2, by rw [hI i h2, hI k (by omega)]; exact h3⟩
 have b1 := propext a1
 have b2 := propext a2
 have b3 := propext a3
 unfold chk7
 by_cases g1 : 16384 < nC ∨ 2048 < nD ∨ 255 < nI ∨ 255 < nO
 ·rw [if_pos g1, if_pos g1]
 ·rw [if_neg g1, if_neg g1]
  by_cases g2 : nS ≠ nD ∨ ¬ adP cI nI nD ∨ ¬ adP cO nO nD
  ·rw [if_pos g2, if_pos (show nS ≠ nD ∨ ¬ adP dI nI nD ∨ ¬ adP dO nO nD by rw [← b1, ← b2]; exact g2)]
  ·rw [if_neg g2, if_neg (show ¬ (nS ≠ nD ∨ ¬ adP dI nI nD ∨ ¬ adP dO nO nD) by rw [← b1, ← b2]; exact g2)]
   by_cases g3 : twP cI nI
   ·rw [if_pos g3, if_pos (show twP dI nI by rw [← b3]; exact g3)]
   ·rw [if_neg g3, if_neg (show ¬ twP dI nI by rw [← b3]; exact g3)]
theorem leafOk {c n q0 q1 q2 q3 q4 : Int} (he : gtE c n = 0)
  (h0 : ∀ i : Nat, (i : Int) < gnC c → IntKind.wrap .u32 (rdZ q0 i) = beN c (6 + 4 * i) 4)
  (h1 : ∀ i : Nat, (i : Int) < gnD c → IntKind.wrap .i32 (rdZ q1 i) = IntKind.wrap .i32 (beN c (gpD c + 2 + 5 * i) 4))
  (h2 : ∀ i : Nat, (i : Int) < gnD c → (rdZ q2 i ≠ 0 ↔ byt c (gpD c + 2 + 5 * i + 4) = 1))
  (h3 : ∀ i : Nat, (i : Int) < gnI c → IntKind.wrap .i64 (rdZ q3 i) = beN c (gpI c + 1 + 2 * i) 2)
  (h4 : ∀ i : Nat, (i : Int) < gnO c → IntKind.wrap .i64 (rdZ q4 i) = beN c (gpO c + 1 + 2 * i) 2) :
  gnC c = gtN c n 0 ∧ qZk [.int .u32] q0 (gtC c 0) (gnC c) ∧ gnD c = gtN c n 1 ∧ qZk [.int .i32] q1 (gtC c 1) (gnD c) ∧ gnD c = gtN c n 2 ∧ qZk [.bool] q2 (gtC c 2) (gnD c) ∧ gnI c = gtN c n 3 ∧ qZk [.int .i64] q3 (gtC c 3) (gnI c) ∧ gnO c = gtN c n 4 ∧ qZk [.int .i64] q4 (gtC c 4) (gnO c) ∧ 0 = gtE c n := by
 refine ⟨(gtN_ok he 0).symm, qZu fun i hi => ?_, (gtN_ok he 1).symm, qZu fun i hi => ?_, (gtN_ok he 2).symm, rowEq_bool fun i hi => ?_, (gtN_ok he 3).symm, qZu fun i hi => ?_, (gtN_ok he 4).symm, qZu fun i hi => ?_, he.symm⟩
 ·rw [h0 i hi, qKk c 0 (show (i : Int) < gnF c 0 from hi)]
  have := be4_bd c (6 + 4 * i)
  exact (qZb .u32 _ this.1 this.2).symm
 ·rw [h1 i hi, qKk c 1 (show (i : Int) < gnF c 1 from hi)]
  exact (wrap_wrap .i32 .i32 _ (by decide)).symm
 ·rw [h2 i hi, qKk c 2 (show (i : Int) < gnF c 2 from hi)]
  show _ ↔ (if byt c (gpD c + 2 + 5 * i + 4) = 1 then (1 : Int) else 0) ≠ 0
  split <;> simp_all
 ·rw [h3 i hi, qKk c 3 (show (i : Int) < gnF c 3 from hi)]
  have := be2_bd c (gpI c + 1 + 2 * i)
  exact (w64 (by omega) (by omega)).symm
 ·rw [h4 i hi, qKk c 4 (show (i : Int) < gnF c 4 from hi)]
  have := be2_bd c (gpO c + 1 + 2 * i)
  exact (w64 (by omega) (by omega)).symm
def leafP (c n e : Int) : Prop :=
 0 = gtN c n 0 ∧ qZk [.int .u32] 0 (gtC c 0) 0 ∧ 0 = gtN c n 1 ∧ qZk [.int .i32] 0 (gtC c 1) 0 ∧ 0 = gtN c n 2 ∧ qZk [.bool] 0 (gtC c 2) 0 ∧ 0 = gtN c n 3 ∧ qZk [.int .i64] 0 (gtC c 3) 0 ∧ 0 = gtN c n 4 ∧ qZk [.int .i64] 0 (gtC c 4) 0 ∧ e = gtE c n
theorem leafP_of {c n e : Int} (he : gtE c n = e) (h : ¬ e = 0) : leafP c n e := leafE he h
theorem enum16 {x : Int} {F : Int → Prop} (h0 : 0 ≤ x) (h : x ≤ 9) (hF : F x) : (x = 0 → F 0) ∧ (¬ x = 0 → (x = 1 → F 1) ∧ (¬ x = 1 → (x = 2 → F 2) ∧ (¬ x = 2 → (x = 3 → F 3) ∧ (¬ x = 3 → (x = 4 → F 4) ∧ (¬ x = 4 → (x = 5 → F 5) ∧ (¬ x = 5 → (x = 6 → F 6) ∧ (¬ x = 6 → (x = 7 → F 7) ∧ (¬ x = 7 → (x = 8 → F 8) ∧ (¬ x = 8 → (x = 9 → F 9) ∧ (¬ x = 9 → (x = 10 → F 10) ∧ (¬ x = 10 → (x = 11 → F 11) ∧ (¬ x = 11 → (x = 12 → F 12) ∧ (¬ x = 12 → (x = 13 → F 13) ∧ (¬ x = 13 → (x = 14 → F 14) ∧ (¬ x = 14 → x = 15 ∧ F 15))))))))))))))) := by
 have e : ∀ k : Int, x = k → F k := fun k g => g ▸ hF
 refine ⟨e 0, fun g0 => ⟨e 1, fun g1 => ⟨e 2, fun g2 => ⟨e 3, fun g3 => ⟨e 4, fun g4 => ⟨e 5, fun g5 => ⟨e 6, fun g6 => ⟨e 7, fun g7 => ⟨e 8, fun g8 => ⟨e 9, fun g9 => ⟨e 10, fun g10 => ⟨e 11, fun g11 => ⟨e 12, fun g12 => ⟨e 13, fun g13 => ⟨e 14, fun g14 => ?_⟩⟩⟩⟩⟩⟩⟩⟩⟩⟩⟩⟩⟩⟩⟩
 exact absurd h (by omega)
end Go.Eng
end
/-!  -/
noncomputable section
namespace Go.Eng
theorem nby_sum4 (x : Int) : 256 * (256 * (256 * nby x 4 0 + nby x 4 1) + nby x 4 2) + nby x 4 3 = IntKind.wrap .u32 x := by
 rw [nby40, nby41, nby42, nby43]
 have := u32_bd x
 omega
theorem nby20 (x : Int) : nby x 2 0 = IntKind.wrap .u32 x / 256 % 256 := rfl
theorem nby21 (x : Int) : nby x 2 1 = IntKind.wrap .u32 x % 256 := by
 show IntKind.wrap .u32 x / 1 % 256 = _
 rw [Int.ediv_one]
theorem nby10 (x : Int) : nby x 1 0 = IntKind.wrap .u32 x % 256 := by
 show IntKind.wrap .u32 x / 1 % 256 = _
 rw [Int.ediv_one]
theorem u32_in {x : Int} (h0 : 0 ≤ x) (h1 : x ≤ 4294967295) : IntKind.wrap .u32 x = x := qZb .u32 _ h0 h1
theorem nby_sum2 {x : Int} (h0 : 0 ≤ x) (h1 : x ≤ 65535) : 256 * nby x 2 0 + nby x 2 1 = x := by
 rw [nby20, nby21, u32_in h0 (by omega)]
 omega
theorem nby_1 {x : Int} (h0 : 0 ≤ x) (h1 : x ≤ 255) : nby x 1 0 = x := by
 rw [nby10, u32_in h0 (by omega)]
 omega
theorem slc_by {q m : Int} (h0 : 0 ≤ m) {i : Nat} (hi : (i : Int) < m) : byt (slcZ q m) i = byt q i := by
 unfold byt
 rw [slc_rd h0, if_neg (by omega), if_neg (by omega)]
theorem ope_slc (q : Int) {m : Int} (h0 : 0 ≤ m) : opeZ (slcZ q m) (m + 2) = 0 := by
 have hc := crcZ_bd q m
 have e : crcZ (slcZ q m) m = crcZ q m := crcF_congr m.toNat fun i hi => slc_by h0 (by omega)
 obtain ⟨k, rfl⟩ : ∃ k : Nat, m = k := ⟨m.toNat, by omega⟩
 unfold opeZ
 rw [if_neg (by omega), show (k : Int) + 2 - 2 = (k : Int) by omega, show (k : Int) + 2 - 1 = ((k + 1 : Nat) : Int) by omega, e]
 refine if_pos ⟨?_, ?_⟩
 ·unfold byt
  rw [slc_rd h0, if_neg (by omega), if_pos rfl]
  exact w8 (by omega) (by omega)
 ·unfold byt
  rw [slc_rd h0, if_pos (by omega)]
  exact w8 (by omega) (by omega)
section
variable {nC nD nI nO cC cD cS cI cO q l : Int}
structure ImFit (nC nD nI nO : Int) : Prop where
 c0 : 0 ≤ nC
 c1 : nC ≤ 16384
 d0 : 0 ≤ nD
 d1 : nD ≤ 2048
 i0 : 0 ≤ nI
 i1 : nI ≤ 255
 o0 : 0 ≤ nO
 o1 : nO ≤ 255
def Beg (nC nD nI nO cC cD cS cI cO q l : Int) : Prop := ∀ i : Int, 0 ≤ i → i < l → i < pN nC nD nI nO → byt q i = pB nC nD nI nO cC cD cS cI cO i
variable (F : ImFit nC nD nI nO) (hq : Beg nC nD nI nO cC cD cS cI cO q l)
include F hq
theorem beg_mag (h : 4 ≤ l) : beN q 0 4 = 1095980081 := by
 have p := show pN nC nD nI nO = 10 + 4 * nC + 5 * nD + 2 * nI + 2 * nO from rfl
 have := F.c0; have := F.d0; have := F.i0; have := F.o0
 rw [← mag_iff]
 intro i hi
 have := hq i (by omega) (by omega) (by omega)
 have h2 := pB_mag nC nD nI nO cC cD cS cI cO i hi
 rw [h2]; exact this
theorem beg_nC (h : 6 ≤ l) : gnC q = nC := by
 have p := show pN nC nD nI nO = 10 + 4 * nC + 5 * nD + 2 * nI + 2 * nO from rfl
 have := F.c0; have := F.d0; have := F.i0; have := F.o0; have := F.c1
 unfold gnC
 rw [be2, hq 4 (by omega) (by omega) (by omega), hq (4 + 1) (by omega) (by omega) (by omega)]
 rw [show pB nC nD nI nO cC cD cS cI cO 4 = nby nC 2 0 from pB_nC cC cD cS cI cO (t := 0) (by decide) (by decide), pB_nC cC cD cS cI cO (t := 1) (by decide) (by decide)]
 exact nby_sum2 (by omega) (by omega)
theorem beg_C {k : Int} (k0 : 0 ≤ k) (k1 : k < nC) (h : 6 + 4 * k + 4 ≤ l) : beN q (6 + 4 * k) 4 = IntKind.wrap .u32 (rdZ cC k) := by
 have p := show pN nC nD nI nO = 10 + 4 * nC + 5 * nD + 2 * nI + 2 * nO from rfl
 have := F.c0; have := F.d0; have := F.i0; have := F.o0
 have e : ∀ t : Int, 0 ≤ t → t < 4 → byt q (6 + 4 * k + t) = nby (IntKind.wrap .u32 (rdZ cC k)) 4 t := fun t t0 t1 => by
  rw [hq (6 + 4 * k + t) (by omega) (by omega) (by omega)]; exact pB_C cC cD cS cI cO k0 k1 t0 t1
 rw [be4, show byt q (6 + 4 * k) = byt q (6 + 4 * k + 0) by rw [Int.add_zero], e 0 (by decide) (by decide), e 1 (by decide) (by decide), e 2 (by decide) (by decide), e 3 (by decide) (by decide), nby_sum4]
 exact wrap_wrap .u32 .u32 _ (by decide)
theorem beg_D0 (h : 6 ≤ l) : gpD q = 6 + 4 * nC := by rw [gpD_ev, beg_nC F hq h]
theorem beg_nD (h : 8 + 4 * nC ≤ l) : gnD q = nD := by
 have p := show pN nC nD nI nO = 10 + 4 * nC + 5 * nD + 2 * nI + 2 * nO from rfl
 have := F.c0; have := F.d0; have := F.i0; have := F.o0; have := F.d1
 show beN q (gpD q) 2 = nD
 rw [beg_D0 F hq (by omega)]
 have e : ∀ t : Int, 0 ≤ t → t < 2 → byt q (6 + 4 * nC + t) = nby nD 2 t := fun t t0 t1 => by
  rw [hq _ (by omega) (by omega) (by omega)]; exact pB_nD cC cD cS cI cO F.c0 t0 t1
 rw [be2, show byt q (6 + 4 * nC) = byt q (6 + 4 * nC + 0) by rw [Int.add_zero], e 0 (by decide) (by decide), e 1 (by decide) (by decide)]
 exact nby_sum2 (by omega) (by omega)
theorem beg_D {k : Int} (k0 : 0 ≤ k) (k1 : k < nD) (h : 8 + 4 * nC + 5 * k + 4 ≤ l) : beN q (8 + 4 * nC + 5 * k) 4 = IntKind.wrap .u32 (IntKind.wrap .i32 (rdZ cD k)) := by
 have p := show pN nC nD nI nO = 10 + 4 * nC + 5 * nD + 2 * nI + 2 * nO from rfl
 have := F.c0; have := F.d0; have := F.i0; have := F.o0
 have e : ∀ t : Int, 0 ≤ t → t < 4 → byt q (8 + 4 * nC + 5 * k + t) = nby (IntKind.wrap .i32 (rdZ cD k)) 4 t := fun t t0 t1 => by
  rw [hq _ (by omega) (by omega) (by omega)]; exact pB_D cC cD cS cI cO F.c0 k0 k1 t0 t1
 rw [be4, show byt q (8 + 4 * nC + 5 * k) = byt q (8 + 4 * nC + 5 * k + 0) by rw [Int.add_zero], e 0 (by decide) (by decide), e 1 (by decide) (by decide), e 2 (by decide) (by decide), e 3 (by decide) (by decide), nby_sum4]
theorem beg_S {k : Int} (k0 : 0 ≤ k) (k1 : k < nD) (h : 8 + 4 * nC + 5 * k + 5 ≤ l) : byt q (8 + 4 * nC + 5 * k + 4) = if rdZ cS k ≠ 0 then 1 else 0 := by
 have p := show pN nC nD nI nO = 10 + 4 * nC + 5 * nD + 2 * nI + 2 * nO from rfl
 have := F.c0; have := F.d0; have := F.i0; have := F.o0
 rw [hq _ (by omega) (by omega) (by omega)]; exact pB_S cC cD cS cI cO F.c0 k0 k1
theorem beg_sec (h : 8 + 4 * nC ≤ l) (k : Nat) (hk : (k : Int) < gnD q) : ¬ qXh q l k := by
 rw [beg_nD F hq h] at hk
 rintro ⟨h1, h2⟩
 have := F.c0
 rw [beg_D0 F hq (by omega)] at h1 h2
 rw [show 6 + 4 * nC + 2 + 5 * (k : Int) + 4 = 8 + 4 * nC + 5 * k + 4 by omega, beg_S F hq (by omega) hk (by omega)] at h2
 split at h2 <;> omega
theorem beg_I0 (h : 8 + 4 * nC ≤ l) : gpI q = 8 + 4 * nC + 5 * nD := by
 have := F.c0
 rw [gpI_ev, beg_D0 F hq (by omega), beg_nD F hq h]; omega
theorem beg_nI (h : 9 + 4 * nC + 5 * nD ≤ l) : gnI q = nI := by
 have p := show pN nC nD nI nO = 10 + 4 * nC + 5 * nD + 2 * nI + 2 * nO from rfl
 have := F.c0; have := F.d0; have := F.i0; have := F.o0; have := F.i1
 show beN q (gpI q) 1 = nI
 rw [beg_I0 F hq (by omega), be1, hq _ (by omega) (by omega) (by omega), pB_nI cC cD cS cI cO F.c0 F.d0]
 exact nby_1 (by omega) (by omega)
theorem beg_I {k : Int} (k0 : 0 ≤ k) (k1 : k < nI) (h : 9 + 4 * nC + 5 * nD + 2 * k + 2 ≤ l) (a0 : 0 ≤ IntKind.wrap .i64 (rdZ cI k)) (a1 : IntKind.wrap .i64 (rdZ cI k) < nD) : beN q (9 + 4 * nC + 5 * nD + 2 * k) 2 = IntKind.wrap .i64 (rdZ cI k) := by
 have p := show pN nC nD nI nO = 10 + 4 * nC + 5 * nD + 2 * nI + 2 * nO from rfl
 have := F.c0; have := F.d0; have := F.i0; have := F.o0; have := F.d1
 have e : ∀ t : Int, 0 ≤ t → t < 2 → byt q (9 + 4 * nC + 5 * nD + 2 * k + t) = nby (IntKind.wrap .i64 (rdZ cI k)) 2 t := fun t t0 t1 => by
  rw [hq _ (by omega) (by omega) (by omega)]; exact pB_I cC cD cS cI cO F.c0 F.d0 k0 k1 t0 t1
 rw [be2, show byt q (9 + 4 * nC + 5 * nD + 2 * k) = byt q (9 + 4 * nC + 5 * nD + 2 * k + 0) by rw [Int.add_zero], e 0 (by decide) (by decide), e 1 (by decide) (by decide)]
 exact nby_sum2 a0 (by omega)
theorem beg_O0 (h : 9 + 4 * nC + 5 * nD ≤ l) : gpO q = 9 + 4 * nC + 5 * nD + 2 * nI := by
 have := F.d0
 rw [gpO_ev, beg_I0 F hq (by omega), beg_nI F hq h]; omega
theorem beg_nO (h : 10 + 4 * nC + 5 * nD + 2 * nI ≤ l) : gnO q = nO := by
 have p := show pN nC nD nI nO = 10 + 4 * nC + 5 * nD + 2 * nI + 2 * nO from rfl
 have := F.c0; have := F.d0; have := F.i0; have := F.o0; have := F.o1
 show beN q (gpO q) 1 = nO
 rw [beg_O0 F hq (by omega), be1, hq _ (by omega) (by omega) (by omega), pB_nO cC cD cS cI cO F.c0 F.d0 F.i0]
 exact nby_1 (by omega) (by omega)
theorem beg_O {k : Int} (k0 : 0 ≤ k) (k1 : k < nO) (h : 10 + 4 * nC + 5 * nD + 2 * nI + 2 * k + 2 ≤ l) (a0 : 0 ≤ IntKind.wrap .i64 (rdZ cO k)) (a1 : IntKind.wrap .i64 (rdZ cO k) < nD) : beN q (10 + 4 * nC + 5 * nD + 2 * nI + 2 * k) 2 = IntKind.wrap .i64 (rdZ cO k) := by
 have p := show pN nC nD nI nO = 10 + 4 * nC + 5 * nD + 2 * nI + 2 * nO from rfl
 have := F.c0; have := F.d0; have := F.i0; have := F.o0; have := F.d1
 have e : ∀ t : Int, 0 ≤ t → t < 2 → byt q (10 + 4 * nC + 5 * nD + 2 * nI + 2 * k + t) = nby (IntKind.wrap .i64 (rdZ cO k)) 2 t := fun t t0 t1 => by
  rw [hq _ (by omega) (by omega) (by omega)]; exact pB_O cC cD cS cI cO F.c0 F.d0 F.i0 k0 t0 t1
 rw [be2, show byt q (10 + 4 * nC + 5 * nD + 2 * nI + 2 * k) = byt q (10 + 4 * nC + 5 * nD + 2 * nI + 2 * k + 0) by rw [Int.add_zero], e 0 (by decide) (by decide), e 1 (by decide) (by decide)]
 exact nby_sum2 a0 (by omega)
theorem beg_E0 (h : 10 + 4 * nC + 5 * nD + 2 * nI ≤ l) : gpE q = pN nC nD nI nO := by
 have p := show pN nC nD nI nO = 10 + 4 * nC + 5 * nD + 2 * nI + 2 * nO from rfl
 have := F.i0; have := F.d0
 rw [gpE_ev, beg_O0 F hq (by omega), beg_nO F hq h]; omega
theorem beg_all (hl : l = pN nC nD nI nO) (hI : adP cI nI nD) (hO : adP cO nO nD) :
  gtF q l = chk7 nC nD nD nI nO cI cO ∧ gnC q = nC ∧ gnD q = nD ∧ gnI q = nI ∧ gnO q = nO ∧ (∀ k : Nat, (k : Int) < nC → rdZ (gtC q 0) k = IntKind.wrap .u32 (rdZ cC k)) ∧ (∀ k : Nat, (k : Int) < nD → rdZ (gtC q 1) k = IntKind.wrap .i32 (rdZ cD k)) ∧
  (∀ k : Nat, (k : Int) < nD → (rdZ (gtC q 2) k ≠ 0 ↔ rdZ cS k ≠ 0)) ∧ (∀ k : Nat, (k : Int) < nI → rdZ (gtC q 3) k = IntKind.wrap .i64 (rdZ cI k)) ∧ (∀ k : Nat, (k : Int) < nO → rdZ (gtC q 4) k = IntKind.wrap .i64 (rdZ cO k)) := by
 have p := show pN nC nD nI nO = 10 + 4 * nC + 5 * nD + 2 * nI + 2 * nO from rfl
 have := F.c0; have := F.d0; have := F.i0; have := F.o0
 have eC := beg_nC F hq (by omega)
 have eD := beg_nD F hq (by omega)
 have eI := beg_nI F hq (by omega)
 have eO := beg_nO F hq (by omega)
 have rI : ∀ k : Nat, (k : Int) < nI → rdZ (gtC q 3) k = IntKind.wrap .i64 (rdZ cI k) := fun k hk => by
  rw [qKk q 3 (show (k : Int) < gnF q 3 from by show (k : Int) < gnI q; omega)]
  show beN q (gpI q + 1 + 2 * k) 2 = _
  rw [beg_I0 F hq (by omega), show 8 + 4 * nC + 5 * nD + 1 + 2 * (k : Int) = 9 + 4 * nC + 5 * nD + 2 * k by omega]
  exact beg_I F hq (by omega) hk (by omega) (hI k hk).1 (hI k hk).2
 have rO : ∀ k : Nat, (k : Int) < nO → rdZ (gtC q 4) k = IntKind.wrap .i64 (rdZ cO k) := fun k hk => by
  rw [qKk q 4 (show (k : Int) < gnF q 4 from by show (k : Int) < gnO q; omega)]
  show beN q (gpO q + 1 + 2 * k) 2 = _
  rw [beg_O0 F hq (by omega), show 9 + 4 * nC + 5 * nD + 2 * nI + 1 + 2 * (k : Int) = 10 + 4 * nC + 5 * nD + 2 * nI + 2 * k by omega]
  exact beg_O F hq (by omega) hk (by omega) (hO k hk).1 (hO k hk).2
 refine ⟨?_, eC, eD, eI, eO, fun k hk => ?_, fun k hk => ?_, fun k hk => ?_, rI, rO⟩
 ·rw [g_chk (beg_mag F hq (by omega)) (beg_sec F hq (by omega)) (by rw [beg_E0 F hq (by omega)]; exact hl), eC, eD, eI, eO]
  exact chk_congr (fun k hk => by rw [rI k hk, w64_id]) (fun k hk => by rw [rO k hk, w64_id])
 ·rw [qKk q 0 (show (k : Int) < gnF q 0 from by show (k : Int) < gnC q; omega)]
  exact beg_C F hq (by omega) hk (by omega)
 ·rw [qKk q 1 (show (k : Int) < gnF q 1 from by show (k : Int) < gnD q; omega)]
  show IntKind.wrap .i32 (beN q (gpD q + 2 + 5 * k) 4) = _
  rw [beg_D0 F hq (by omega), show 6 + 4 * nC + 2 + 5 * (k : Int) = 8 + 4 * nC + 5 * k by omega, beg_D F hq (by omega) hk (by omega)]
  rw [show IntKind.wrap .i32 (IntKind.wrap .u32 (IntKind.wrap .i32 (rdZ cD k))) = IntKind.wrap .i32 (IntKind.wrap .i32 (rdZ cD k)) from wrap_wrap .i32 .u32 _ (by decide)]
  exact wrap_wrap .i32 .i32 _ (by decide)
 ·rw [qKk q 2 (show (k : Int) < gnF q 2 from by show (k : Int) < gnD q; omega)]
  show (if byt q (gpD q + 2 + 5 * k + 4) = 1 then (1 : Int) else 0) ≠ 0 ↔ _
  rw [beg_D0 F hq (by omega), show 6 + 4 * nC + 2 + 5 * (k : Int) + 4 = 8 + 4 * nC + 5 * k + 4 by omega, beg_S F hq (by omega) hk (by omega)]
  by_cases e : rdZ cS k = 0
  ·simp [e]
  ·simp [e]
end
theorem beg_put (nC nD nI nO cC cD cS cI cO : Int) (h : 0 ≤ pN nC nD nI nO) (l : Int) : Beg nC nD nI nO cC cD cS cI cO (slcZ (pC nC nD nI nO cC cD cS cI cO) (pN nC nD nI nO)) l := by
 intro i h0 _ h2
 obtain ⟨k, rfl⟩ : ∃ k : Nat, i = k := ⟨i.toNat, by omega⟩
 rw [slc_by h h2, pC_by _ _ _ _ _ _ _ _ _ h2]
theorem chk_fit {nC nD nS nI nO cI cO : Int} (h : chk7 nC nD nS nI nO cI cO = 0) (h0 : 0 ≤ nC) (h1 : 0 ≤ nD) (h2 : 0 ≤ nI) (h3 : 0 ≤ nO) : ImFit nC nD nI nO := by
 obtain ⟨a, b, c, d, _⟩ := chk_zero h
 exact ⟨h0, a, h1, b, h2, c, h3, d⟩
theorem put_get {nC nD nI nO cC cD cS cI cO : Int} (h : chk7 nC nD nD nI nO cI cO = 0) (h0 : 0 ≤ nC) (h1 : 0 ≤ nD) (h2 : 0 ≤ nI) (h3 : 0 ≤ nO) :
  let q := slcZ (pC nC nD nI nO cC cD cS cI cO) (pN nC nD nI nO)
  let n := pN nC nD nI nO + 2
  gtE q n = 0 ∧ gtN q n 0 = nC ∧ gtN q n 1 = nD ∧ gtN q n 2 = nD ∧ gtN q n 3 = nI ∧ gtN q n 4 = nO ∧ (∀ k : Nat, (k : Int) < nC → rdZ (gtC q 0) k = IntKind.wrap .u32 (rdZ cC k)) ∧ (∀ k : Nat, (k : Int) < nD → rdZ (gtC q 1) k = IntKind.wrap .i32 (rdZ cD k)) ∧
  (∀ k : Nat, (k : Int) < nD → (rdZ (gtC q 2) k ≠ 0 ↔ rdZ cS k ≠ 0)) ∧ (∀ k : Nat, (k : Int) < nI → rdZ (gtC q 3) k = IntKind.wrap .i64 (rdZ cI k)) ∧ (∀ k : Nat, (k : Int) < nO → rdZ (gtC q 4) k = IntKind.wrap .i64 (rdZ cO k)) := by
 intro q n
 have F := chk_fit h h0 h1 h2 h3
 have hp : 0 ≤ pN nC nD nI nO := by unfold pN; omega
 obtain ⟨_, _, _, _, _, hI, hO, _⟩ := chk_zero h
 obtain ⟨a0, a1, a2, a3, a4, a5, a6, a7, a8, a9⟩ := beg_all F (beg_put nC nD nI nO cC cD cS cI cO hp (pN nC nD nI nO)) rfl hI hO
 have hE : gtE q n = 0 := by
  rw [gtE_in (ope_slc _ hp)]
  show gtF q (pN nC nD nI nO + 2 - 2) = 0
  rw [show pN nC nD nI nO + 2 - 2 = pN nC nD nI nO by omega, a0, h]
 exact ⟨hE, by rw [gtN_ok hE]; exact a1, by rw [gtN_ok hE]; exact a2, by rw [gtN_ok hE]; exact a2, by rw [gtN_ok hE]; exact a3, by rw [gtN_ok hE]; exact a4, a5, a6, a7, a8, a9⟩
end Go.Eng
end
