/-
  Parts of the engine, a program's symbolic run, proved sound; and of plain laws.
-/
import Derived.Test.YtkjbmbmdmhfbeacDoorGp2
set_option linter.unusedVariables false
set_option linter.unusedSimpArgs false
/-!  -/
noncomputable section
namespace Go.Eng
theorem byt_bd (c i : Int) : 0 ≤ byt c i ∧ byt c i ≤ 255 := u8_bd _
theorem be1 (c o : Int) : beN c o 1 = byt c o := by simp [beN]
theorem be2 (c o : Int) : beN c o 2 = 256 * byt c o + byt c (o + 1) := by simp [beN]
theorem be4 (c o : Int) : beN c o 4 = 256 * (256 * (256 * byt c o + byt c (o + 1)) + byt c (o + 2)) + byt c (o + 3) := by simp [beN]
theorem be1_bd (c o : Int) : 0 ≤ beN c o 1 ∧ beN c o 1 ≤ 255 := by rw [be1]; exact byt_bd c o
theorem be2_bd (c o : Int) : 0 ≤ beN c o 2 ∧ beN c o 2 ≤ 65535 := by
 rw [be2]
 have := byt_bd c o
 have := byt_bd c (o + 1)
 omega
theorem be4_bd (c o : Int) : 0 ≤ beN c o 4 ∧ beN c o 4 ≤ 4294967295 := by
 rw [be4]
 have := byt_bd c o
 have := byt_bd c (o + 1)
 have := byt_bd c (o + 2)
 have := byt_bd c (o + 3)
 omega
theorem bor_add {a b : Nat} (ha : a < 36028797018963968) (hb : b < 256) : bor .i64 ((a * 256 : Nat) : Int) (b : Int) = ((a * 256 + b : Nat) : Int) := by
 show IntKind.wrap .i64 ((BitVec.ofInt 64 ((a * 256 : Nat) : Int) ||| BitVec.ofInt 64 (b : Int)).toNat : Int) = _
 rw [BitVec.toNat_or, BitVec.ofInt_natCast, BitVec.ofInt_natCast, BitVec.toNat_ofNat, BitVec.toNat_ofNat, Nat.mod_eq_of_lt (by omega), Nat.mod_eq_of_lt (by omega)]
 have e : a * 256 ||| b = a * 256 + b := by
  have := Nat.two_pow_add_eq_or_of_lt (i := 8) hb a
  rw [Nat.mul_comm a 256]
  exact this.symm
 rw [e]
 exact w64 (by omega) (by omega)
theorem bor0 (x : Int) : bor .i64 0 (IntKind.wrap .u8 x) = IntKind.wrap .u8 x := by
 have := u8_bd x
 obtain ⟨n, hn⟩ : ∃ n : Nat, IntKind.wrap .u8 x = n := ⟨(IntKind.wrap .u8 x).toNat, by omega⟩
 rw [hn]
 have := bor_add (a := 0) (b := n) (by decide) (by omega)
 simpa using this
theorem bor8 {a : Int} (h0 : 0 ≤ a) (h1 : a < 16777216) (x : Int) : bor .i64 (shlZ .i64 a 8) (IntKind.wrap .u8 x) = 256 * a + IntKind.wrap .u8 x := by
 have := u8_bd x
 obtain ⟨n, hn⟩ : ∃ n : Nat, IntKind.wrap .u8 x = n := ⟨(IntKind.wrap .u8 x).toNat, by omega⟩
 obtain ⟨m, rfl⟩ : ∃ m : Nat, a = m := ⟨a.toNat, by omega⟩
 rw [hn]
 have e : shlZ .i64 (m : Int) 8 = ((m * 256 : Nat) : Int) := by
  show IntKind.wrap .i64 ((m : Int) * 256) = _
  rw [w64 (by omega) (by omega)]; omega
 rw [e, bor_add (by omega) (by omega)]
 omega
theorem borB (x y : Int) : bor .i64 (shlZ .i64 (IntKind.wrap .u8 x) 8) (IntKind.wrap .u8 y) = 256 * IntKind.wrap .u8 x + IntKind.wrap .u8 y := by
 have := u8_bd x
 exact bor8 this.1 (by omega) y
theorem borC (x y z : Int) : bor .i64 (shlZ .i64 (256 * IntKind.wrap .u8 x + IntKind.wrap .u8 y) 8) (IntKind.wrap .u8 z) = 256 * (256 * IntKind.wrap .u8 x + IntKind.wrap .u8 y) + IntKind.wrap .u8 z := by
 have := u8_bd x
 have := u8_bd y
 exact bor8 (by omega) (by omega) z
theorem borD (x y z u : Int) : bor .i64 (shlZ .i64 (256 * (256 * IntKind.wrap .u8 x + IntKind.wrap .u8 y) + IntKind.wrap .u8 z) 8) (IntKind.wrap .u8 u) = 256 * (256 * (256 * IntKind.wrap .u8 x + IntKind.wrap .u8 y) + IntKind.wrap .u8 z) + IntKind.wrap .u8 u := by
 have := u8_bd x
 have := u8_bd y
 have := u8_bd z
 exact bor8 (by omega) (by omega) u
theorem w4 (c o : Int) : 256 * (256 * (256 * IntKind.wrap .u8 (rdZ c o) + IntKind.wrap .u8 (rdZ c (o + 1))) + IntKind.wrap .u8 (rdZ c (o + 2))) + IntKind.wrap .u8 (rdZ c (o + 3)) = beN c o 4 := (be4 c o).symm
theorem w2 (c o : Int) : 256 * IntKind.wrap .u8 (rdZ c o) + IntKind.wrap .u8 (rdZ c (o + 1)) = beN c o 2 := (be2 c o).symm
theorem w1 (c o : Int) : IntKind.wrap .u8 (rdZ c o) = beN c o 1 := (be1 c o).symm
theorem mag_iff (c : Int) : (∀ i : Nat, (i : Int) < 4 → IntKind.wrap .u8 (rdZ c i) = IntKind.wrap .u8 (rdZ (qQz 65 (qQz 83 (qQz 84 (qQz 49 0)))) i)) ↔ beN c 0 4 = 1095980081 := by
 rw [show (qQz 65 (qQz 83 (qQz 84 (qQz 49 0)))) = chn [65, 83, 84, 49] from rfl]
 simp only [rd_chn]
 rw [be4]
 have b0 := byt_bd c 0
 have b1 := byt_bd c (0 + 1)
 have b2 := byt_bd c (0 + 2)
 have b3 := byt_bd c (0 + 3)
 constructor
 ·intro h
  have h0 := h 0 (by decide)
  have h1 := h 1 (by decide)
  have h2 := h 2 (by decide)
  have h3 := h 3 (by decide)
  have e0 : byt c 0 = 65 := h0
  have e1 : byt c (0 + 1) = 83 := h1
  have e2 : byt c (0 + 2) = 84 := h2
  have e3 : byt c (0 + 3) = 49 := h3
  omega
 ·intro h i hi
  have e0 : byt c 0 = 65 := by omega
  have e1 : byt c (0 + 1) = 83 := by omega
  have e2 : byt c (0 + 2) = 84 := by omega
  have e3 : byt c (0 + 3) = 49 := by omega
  have : i = 0 ∨ i = 1 ∨ i = 2 ∨ i = 3 := by omega
  rcases this with rfl | rfl | rfl | rfl
  ·exact e0
  ·exact e1
  ·exact e2
  ·exact e3
theorem mag_seq (c : Int) : (seqZ (qQz 4 (qQz c 0)) (qQz 4 (qQz (qQz 65 (qQz 83 (qQz 84 (qQz 49 0)))) 0)) = 0) ↔ ¬ beN c 0 4 = 1095980081 := by
 rw [seq_row0 (by decide) (by decide) (by decide) (by decide), mag_iff]
 simp
section
variable (c : Int)
theorem gnC_bd : 0 ≤ gnC c ∧ gnC c ≤ 65535 := be2_bd _ _
theorem gnD_bd : 0 ≤ gnD c ∧ gnD c ≤ 65535 := be2_bd _ _
theorem gnI_bd : 0 ≤ gnI c ∧ gnI c ≤ 255 := be1_bd _ _
theorem gnO_bd : 0 ≤ gnO c ∧ gnO c ≤ 255 := be1_bd _ _
theorem gpD_ev : gpD c = 6 + 4 * gnC c := rfl
theorem gpI_ev : gpI c = gpD c + 2 + 5 * gnD c := rfl
theorem gpO_ev : gpO c = gpI c + 1 + 2 * gnI c := rfl
theorem gpE_ev : gpE c = gpO c + 1 + 2 * gnO c := rfl
def badSec (l : Int) (i : Nat) : Prop := gpD c + 2 + 5 * (i + 1) ≤ l ∧ 1 < byt c (gpD c + 2 + 5 * i + 4)
theorem sec_iff (l : Int) : (0 < ((List.range (gnD c).toNat).filter fun (i : Nat) => decide (gpD c + 2 + 5 * (i + 1) ≤ l ∧ 1 < byt c (gpD c + 2 + 5 * i + 4))).length) ↔ ∃ i : Nat, (i : Int) < gnD c ∧ badSec c l i := by
 rw [List.length_pos_iff_exists_mem]
 constructor
 ·rintro ⟨i, hi⟩
  simp only [List.mem_filter, List.mem_range, decide_eq_true_eq] at hi
  exact ⟨i, by omega, hi.2⟩
 ·rintro ⟨i, h1, h2⟩
  refine ⟨i, ?_⟩
  simp only [List.mem_filter, List.mem_range, decide_eq_true_eq]
  exact ⟨by omega, h2⟩
variable {c} {l : Int}
theorem g_s0 (h : l < 4) : gtF c l = 4 := by unfold gtF; rw [if_pos h]
theorem g_form (h : 4 ≤ l) (hm : ¬ beN c 0 4 = 1095980081) : gtF c l = 3 := by unfold gtF; rw [if_neg (by omega), if_pos hm]
theorem g_s1 (h : 4 ≤ l) (hm : beN c 0 4 = 1095980081) (h1 : l < 6) : gtF c l = 4 := by unfold gtF; rw [if_neg (by omega), if_neg (fun g => g hm), if_pos h1]
theorem g_s2 (hm : beN c 0 4 = 1095980081) (h : 6 ≤ l) (h1 : l < gpD c + 2) : gtF c l = 4 := by
 unfold gtF; rw [if_neg (by omega), if_neg (fun g => g hm), if_neg (by omega), if_pos h1]
theorem g_sec (hm : beN c 0 4 = 1095980081) (h : gpD c + 2 ≤ l) {i : Nat} (hi : (i : Int) < gnD c) (hb : badSec c l i) : gtF c l = 3 := by
 have := gpD_ev c
 have := gnC_bd c
 unfold gtF; rw [if_neg (by omega), if_neg (fun g => g hm), if_neg (by omega), if_neg (by omega), if_pos ((sec_iff c l).2 ⟨i, hi, hb⟩)]
theorem g_rest (hm : beN c 0 4 = 1095980081) (h : gpD c + 2 ≤ l) (hs : ∀ i : Nat, (i : Int) < gnD c → ¬ badSec c l i) :
  gtF c l = if l < gpI c + 1 then 4 else if l < gpO c + 1 then 4 else if l < gpE c then 4 else if gpE c < l then 5 else chkZ (gnC c) (gnD c) (qQz (gnD c) (qQz (gnI c) (qQz (gnO c) (qQz (gtC c 3) (qQz (gtC c 4) 0))))) := by
 have := gpD_ev c
 have := gnC_bd c
 unfold gtF; rw [if_neg (by omega), if_neg (fun g => g hm), if_neg (by omega), if_neg (by omega), if_neg (fun g => by obtain ⟨i, h1, h2⟩ := (sec_iff c l).1 g; exact hs i h1 h2)]
theorem g_s3 (hm : beN c 0 4 = 1095980081) (h : gpD c + 2 ≤ l) (hs : ∀ i : Nat, (i : Int) < gnD c → ¬ badSec c l i) (h1 : l < gpI c + 1) : gtF c l = 4 := by rw [g_rest hm h hs, if_pos h1]
theorem g_s4 (hm : beN c 0 4 = 1095980081) (hs : ∀ i : Nat, (i : Int) < gnD c → ¬ badSec c l i) (h : gpI c + 1 ≤ l) (h1 : l < gpO c + 1) : gtF c l = 4 := by
 have := gpI_ev c; have := gnD_bd c
 rw [g_rest hm (by omega) hs, if_neg (by omega), if_pos h1]
theorem g_s5 (hm : beN c 0 4 = 1095980081) (hs : ∀ i : Nat, (i : Int) < gnD c → ¬ badSec c l i) (h : gpO c + 1 ≤ l) (h1 : l < gpE c) : gtF c l = 4 := by
 have := gpI_ev c; have := gnD_bd c; have := gpO_ev c; have := gnI_bd c
 rw [g_rest hm (by omega) hs, if_neg (by omega), if_neg (by omega), if_pos h1]
theorem g_long (hm : beN c 0 4 = 1095980081) (hs : ∀ i : Nat, (i : Int) < gnD c → ¬ badSec c l i) (h1 : gpE c < l) : gtF c l = 5 := by
 have := gpI_ev c; have := gnD_bd c; have := gpO_ev c; have := gnI_bd c; have := gpE_ev c; have := gnO_bd c
 rw [g_rest hm (by omega) hs, if_neg (by omega), if_neg (by omega), if_neg (by omega), if_pos h1]
theorem g_chk (hm : beN c 0 4 = 1095980081) (hs : ∀ i : Nat, (i : Int) < gnD c → ¬ badSec c l i) (h1 : l = gpE c) : gtF c l = chk7 (gnC c) (gnD c) (gnD c) (gnI c) (gnO c) (gtC c 3) (gtC c 4) := by
 have := gpI_ev c; have := gnD_bd c; have := gpO_ev c; have := gnI_bd c; have := gpE_ev c; have := gnO_bd c
 rw [g_rest hm (by omega) hs, if_neg (by omega), if_neg (by omega), if_neg (by omega), if_neg (by omega), chk_ev]
end
theorem ope_len {c n : Int} (h : opeZ c n = 0) : 2 ≤ n := by
 unfold opeZ at h
 split at h
 ·cases h
 ·omega
theorem gtE_open {c n : Int} (h : ¬ opeZ c n = 0) : gtE c n = opeZ c n := by unfold gtE; rw [if_pos h]
theorem gtE_in {c n : Int} (h : opeZ c n = 0) : gtE c n = gtF c (n - 2) := by unfold gtE; rw [if_neg (fun g => g h)]
theorem gtN_bad {c n : Int} (h : ¬ gtE c n = 0) (k : Int) : gtN c n k = 0 := by unfold gtN; rw [if_pos h]
theorem gtN_ok {c n : Int} (h : gtE c n = 0) (k : Int) : gtN c n k = gnF c k := by unfold gtN; rw [if_neg (fun g => g h)]
theorem leafE {c n e : Int} (he : gtE c n = e) (h : ¬ e = 0) :
  0 = gtN c n 0 ∧ qZi [.int .u32] 0 (gtC c 0) 0 ∧ 0 = gtN c n 1 ∧ qZi [.int .i32] 0 (gtC c 1) 0 ∧ 0 = gtN c n 2 ∧ qZi [.bool] 0 (gtC c 2) 0 ∧ 0 = gtN c n 3 ∧ qZi [.int .i64] 0 (gtC c 3) 0 ∧ 0 = gtN c n 4 ∧ qZi [.int .i64] 0 (gtC c 4) 0 ∧ e = gtE c n := by
 have hb : ¬ gtE c n = 0 := by rw [he]; exact h
 refine ⟨(gtN_bad hb 0).symm, qJf _ _ _ (by omega), (gtN_bad hb 1).symm, qJf _ _ _ (by omega), (gtN_bad hb 2).symm, qJf _ _ _ (by omega), (gtN_bad hb 3).symm, qJf _ _ _ (by omega), (gtN_bad hb 4).symm, qJf _ _ _ (by omega), he.symm⟩
theorem gtC_rd (c k : Int) {i : Nat} (h : (i : Int) < gnF c k) : rdZ (gtC c k) i = gtR c k i := by
 unfold gtC
 exact LZ_map_rd _ _ (by omega)
theorem rowEq_bool {y q n : Int} (h : ∀ i : Nat, (i : Int) < n → (rdZ y i ≠ 0 ↔ rdZ q i ≠ 0)) : qZi [.bool] y q n := fun i hi => by
 simp only [qQw, ckV]
 congr 2
 have := h i hi
 by_cases e : rdZ q i = 0
 ·have : rdZ y i = 0 := by
   by_cases g : rdZ y i = 0
   ·exact g
   ·exact absurd e (this.1 g)
  rw [e, this]
 ·have g := this.2 e
  rw [bne_iff_ne.2 e, bne_iff_ne.2 g]
theorem chk_congr {nC nD nS nI nO cI cO dI dO : Int} (hI : ∀ k : Nat, (k : Int) < nI → IntKind.wrap .i64 (rdZ cI k) = IntKind.wrap .i64 (rdZ dI k)) (hO : ∀ k : Nat, (k : Int) < nO → IntKind.wrap .i64 (rdZ cO k) = IntKind.wrap .i64 (rdZ dO k)) :
  chk7 nC nD nS nI nO cI cO = chk7 nC nD nS nI nO dI dO := by
 have a1 : adP cI nI nD ↔ adP dI nI nD := by
  unfold adP inR
  constructor
  ·intro h i hi; rw [← hI i hi]; exact h i hi
  ·intro h i hi; rw [hI i hi]; exact h i hi
 have a2 : adP cO nO nD ↔ adP dO nO nD := by
  unfold adP inR
  constructor
  ·intro h i hi; rw [← hO i hi]; exact h i hi
  ·intro h i hi; rw [hO i hi]; exact h i hi
 have a3 : twP cI nI ↔ twP dI nI := by
  unfold twP
  constructor
  ·rintro ⟨i, k, h1, h2, h3⟩; exact ⟨i, k, h1, h2, by rw [← hI i h2, ← hI k (by omega)]; exact h3⟩
  ·rintro ⟨i, k, h1, h2, h3⟩; exact ⟨i, k, h1, h2, by rw [hI i h2, hI k (by omega)]; exact h3⟩
 have b1 := propext a1
 have b2 := propext a2
 have b3 := propext a3
 unfold chk7
 by_cases g1 : 16384 < nC ∨ 2048 < nD ∨ 255 < nI ∨ 255 < nO
 ·rw [if_pos g1, if_pos g1]
 ·rw [if_neg g1, if_neg g1]
  by_cases g2 : nS ≠ nD ∨ ¬ adP cI nI nD ∨ ¬ adP cO nO nD
  ·rw [if_pos g2, if_pos (show nS ≠ nD ∨ ¬ adP dI nI nD ∨ ¬ adP dO nO nD by rw [← b1, ← b2]; exact g2)]
  ·rw [if_neg g2, if_neg (show ¬ (nS ≠ nD ∨ ¬ adP dI nI nD ∨ ¬ adP dO nO nD) by rw [← b1, ← b2]; exact g2)]
   by_cases g3 : twP cI nI
   ·rw [if_pos g3, if_pos (show twP dI nI by rw [← b3]; exact g3)]
   ·rw [if_neg g3, if_neg (show ¬ twP dI nI by rw [← b3]; exact g3)]
theorem leafOk {c n q0 q1 q2 q3 q4 : Int} (he : gtE c n = 0)
  (h0 : ∀ i : Nat, (i : Int) < gnC c → IntKind.wrap .u32 (rdZ q0 i) = beN c (6 + 4 * i) 4)
  (h1 : ∀ i : Nat, (i : Int) < gnD c → IntKind.wrap .i32 (rdZ q1 i) = IntKind.wrap .i32 (beN c (gpD c + 2 + 5 * i) 4))
  (h2 : ∀ i : Nat, (i : Int) < gnD c → (rdZ q2 i ≠ 0 ↔ byt c (gpD c + 2 + 5 * i + 4) = 1))
  (h3 : ∀ i : Nat, (i : Int) < gnI c → IntKind.wrap .i64 (rdZ q3 i) = beN c (gpI c + 1 + 2 * i) 2)
  (h4 : ∀ i : Nat, (i : Int) < gnO c → IntKind.wrap .i64 (rdZ q4 i) = beN c (gpO c + 1 + 2 * i) 2) :
  gnC c = gtN c n 0 ∧ qZi [.int .u32] q0 (gtC c 0) (gnC c) ∧ gnD c = gtN c n 1 ∧ qZi [.int .i32] q1 (gtC c 1) (gnD c) ∧ gnD c = gtN c n 2 ∧ qZi [.bool] q2 (gtC c 2) (gnD c) ∧ gnI c = gtN c n 3 ∧ qZi [.int .i64] q3 (gtC c 3) (gnI c) ∧ gnO c = gtN c n 4 ∧ qZi [.int .i64] q4 (gtC c 4) (gnO c) ∧ 0 = gtE c n := by
 refine ⟨(gtN_ok he 0).symm, qJq fun i hi => ?_, (gtN_ok he 1).symm, qJq fun i hi => ?_, (gtN_ok he 2).symm, rowEq_bool fun i hi => ?_, (gtN_ok he 3).symm, qJq fun i hi => ?_, (gtN_ok he 4).symm, qJq fun i hi => ?_, he.symm⟩
 ·rw [h0 i hi, gtC_rd c 0 (show (i : Int) < gnF c 0 from hi)]
  have := be4_bd c (6 + 4 * i)
  exact (qZc .u32 _ this.1 this.2).symm
 ·rw [h1 i hi, gtC_rd c 1 (show (i : Int) < gnF c 1 from hi)]
  exact (wrap_wrap .i32 .i32 _ (by decide)).symm
 ·rw [h2 i hi, gtC_rd c 2 (show (i : Int) < gnF c 2 from hi)]
  show _ ↔ (if byt c (gpD c + 2 + 5 * i + 4) = 1 then (1 : Int) else 0) ≠ 0
  split <;> simp_all
 ·rw [h3 i hi, gtC_rd c 3 (show (i : Int) < gnF c 3 from hi)]
  have := be2_bd c (gpI c + 1 + 2 * i)
  exact (w64 (by omega) (by omega)).symm
 ·rw [h4 i hi, gtC_rd c 4 (show (i : Int) < gnF c 4 from hi)]
  have := be2_bd c (gpO c + 1 + 2 * i)
  exact (w64 (by omega) (by omega)).symm
def leafP (c n e : Int) : Prop :=
 0 = gtN c n 0 ∧ qZi [.int .u32] 0 (gtC c 0) 0 ∧ 0 = gtN c n 1 ∧ qZi [.int .i32] 0 (gtC c 1) 0 ∧ 0 = gtN c n 2 ∧ qZi [.bool] 0 (gtC c 2) 0 ∧ 0 = gtN c n 3 ∧ qZi [.int .i64] 0 (gtC c 3) 0 ∧ 0 = gtN c n 4 ∧ qZi [.int .i64] 0 (gtC c 4) 0 ∧ e = gtE c n
theorem leafP_of {c n e : Int} (he : gtE c n = e) (h : ¬ e = 0) : leafP c n e := leafE he h
theorem enum16 {x : Int} {F : Int → Prop} (h0 : 0 ≤ x) (h : x ≤ 9) (hF : F x) : (x = 0 → F 0) ∧ (¬ x = 0 → (x = 1 → F 1) ∧ (¬ x = 1 → (x = 2 → F 2) ∧ (¬ x = 2 → (x = 3 → F 3) ∧ (¬ x = 3 → (x = 4 → F 4) ∧ (¬ x = 4 → (x = 5 → F 5) ∧ (¬ x = 5 → (x = 6 → F 6) ∧ (¬ x = 6 → (x = 7 → F 7) ∧ (¬ x = 7 → (x = 8 → F 8) ∧ (¬ x = 8 → (x = 9 → F 9) ∧ (¬ x = 9 → (x = 10 → F 10) ∧ (¬ x = 10 → (x = 11 → F 11) ∧ (¬ x = 11 → (x = 12 → F 12) ∧ (¬ x = 12 → (x = 13 → F 13) ∧ (¬ x = 13 → (x = 14 → F 14) ∧ (¬ x = 14 → x = 15 ∧ F 15))))))))))))))) := by
 have e : ∀ k : Int, x = k → F k := fun k g => g ▸ hF
 refine ⟨e 0, fun g0 => ⟨e 1, fun g1 => ⟨e 2, fun g2 => ⟨e 3, fun g3 => ⟨e 4, fun g4 => ⟨e 5, fun g5 => ⟨e 6, fun g6 => ⟨e 7, fun g7 => ⟨e 8, fun g8 => ⟨e 9, fun g9 => ⟨e 10, fun g10 => ⟨e 11, fun g11 => ⟨e 12, fun g12 => ⟨e 13, fun g13 => ⟨e 14, fun g14 => ?_⟩⟩⟩⟩⟩⟩⟩⟩⟩⟩⟩⟩⟩⟩⟩
 exact absurd h (by omega)
end Go.Eng
end
