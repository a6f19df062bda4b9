/-
  Parts of the engine, a program's symbolic run, proved sound; and of plain laws.
-/
import Derived.Test.YtkjbmbmdmhfbeacDoorGp3
set_option linter.unusedVariables false
set_option linter.unusedSimpArgs false
/-!  -/
noncomputable section
namespace Go.Eng
theorem nby_sum4 (x : Int) : 256 * (256 * (256 * nby x 4 0 + nby x 4 1) + nby x 4 2) + nby x 4 3 = IntKind.wrap .u32 x := by
 rw [nby40, nby41, nby42, nby43]
 have := u32_bd x
 omega
theorem nby20 (x : Int) : nby x 2 0 = IntKind.wrap .u32 x / 256 % 256 := rfl
theorem nby21 (x : Int) : nby x 2 1 = IntKind.wrap .u32 x % 256 := by
 show IntKind.wrap .u32 x / 1 % 256 = _
 rw [Int.ediv_one]
theorem nby10 (x : Int) : nby x 1 0 = IntKind.wrap .u32 x % 256 := by
 show IntKind.wrap .u32 x / 1 % 256 = _
 rw [Int.ediv_one]
theorem u32_in {x : Int} (h0 : 0 ≤ x) (h1 : x ≤ 4294967295) : IntKind.wrap .u32 x = x := qZc .u32 _ h0 h1
theorem nby_sum2 {x : Int} (h0 : 0 ≤ x) (h1 : x ≤ 65535) : 256 * nby x 2 0 + nby x 2 1 = x := by
 rw [nby20, nby21, u32_in h0 (by omega)]
 omega
theorem nby_1 {x : Int} (h0 : 0 ≤ x) (h1 : x ≤ 255) : nby x 1 0 = x := by
 rw [nby10, u32_in h0 (by omega)]
 omega
theorem slc_by {q m : Int} (h0 : 0 ≤ m) {i : Nat} (hi : (i : Int) < m) : byt (slcZ q m) i = byt q i := by
 unfold byt
 rw [slc_rd h0, if_neg (by omega), if_neg (by omega)]
theorem ope_slc (q : Int) {m : Int} (h0 : 0 ≤ m) : opeZ (slcZ q m) (m + 2) = 0 := by
 have hc := crcZ_bd q m
 have e : crcZ (slcZ q m) m = crcZ q m := crcF_congr m.toNat fun i hi => slc_by h0 (by omega)
 obtain ⟨k, rfl⟩ : ∃ k : Nat, m = k := ⟨m.toNat, by omega⟩
 unfold opeZ
 rw [if_neg (by omega), show (k : Int) + 2 - 2 = (k : Int) by omega, show (k : Int) + 2 - 1 = ((k + 1 : Nat) : Int) by omega, e]
 refine if_pos ⟨?_, ?_⟩
 ·unfold byt
  rw [slc_rd h0, if_neg (by omega), if_pos rfl]
  exact w8 (by omega) (by omega)
 ·unfold byt
  rw [slc_rd h0, if_pos (by omega)]
  exact w8 (by omega) (by omega)
section
variable {nC nD nI nO cC cD cS cI cO q l : Int}
structure ImFit (nC nD nI nO : Int) : Prop where
 c0 : 0 ≤ nC
 c1 : nC ≤ 16384
 d0 : 0 ≤ nD
 d1 : nD ≤ 2048
 i0 : 0 ≤ nI
 i1 : nI ≤ 255
 o0 : 0 ≤ nO
 o1 : nO ≤ 255
def Beg (nC nD nI nO cC cD cS cI cO q l : Int) : Prop := ∀ i : Int, 0 ≤ i → i < l → i < pN nC nD nI nO → byt q i = pB nC nD nI nO cC cD cS cI cO i
variable (F : ImFit nC nD nI nO) (hq : Beg nC nD nI nO cC cD cS cI cO q l)
include F hq
theorem beg_mag (h : 4 ≤ l) : beN q 0 4 = 1095980081 := by
 have p := show pN nC nD nI nO = 10 + 4 * nC + 5 * nD + 2 * nI + 2 * nO from rfl
 have := F.c0; have := F.d0; have := F.i0; have := F.o0
 rw [← mag_iff]
 intro i hi
 have := hq i (by omega) (by omega) (by omega)
 have h2 := pB_mag nC nD nI nO cC cD cS cI cO i hi
 rw [h2]; exact this
theorem beg_nC (h : 6 ≤ l) : gnC q = nC := by
 have p := show pN nC nD nI nO = 10 + 4 * nC + 5 * nD + 2 * nI + 2 * nO from rfl
 have := F.c0; have := F.d0; have := F.i0; have := F.o0; have := F.c1
 unfold gnC
 rw [be2, hq 4 (by omega) (by omega) (by omega), hq (4 + 1) (by omega) (by omega) (by omega)]
 rw [show pB nC nD nI nO cC cD cS cI cO 4 = nby nC 2 0 from pB_nC cC cD cS cI cO (t := 0) (by decide) (by decide), pB_nC cC cD cS cI cO (t := 1) (by decide) (by decide)]
 exact nby_sum2 (by omega) (by omega)
theorem beg_C {k : Int} (k0 : 0 ≤ k) (k1 : k < nC) (h : 6 + 4 * k + 4 ≤ l) : beN q (6 + 4 * k) 4 = IntKind.wrap .u32 (rdZ cC k) := by
 have p := show pN nC nD nI nO = 10 + 4 * nC + 5 * nD + 2 * nI + 2 * nO from rfl
 have := F.c0; have := F.d0; have := F.i0; have := F.o0
 have e : ∀ t : Int, 0 ≤ t → t < 4 → byt q (6 + 4 * k + t) = nby (IntKind.wrap .u32 (rdZ cC k)) 4 t := fun t t0 t1 => by
  rw [hq (6 + 4 * k + t) (by omega) (by omega) (by omega)]; exact pB_C cC cD cS cI cO k0 k1 t0 t1
 rw [be4, show byt q (6 + 4 * k) = byt q (6 + 4 * k + 0) by rw [Int.add_zero], e 0 (by decide) (by decide), e 1 (by decide) (by decide), e 2 (by decide) (by decide), e 3 (by decide) (by decide), nby_sum4]
 exact wrap_wrap .u32 .u32 _ (by decide)
theorem beg_D0 (h : 6 ≤ l) : gpD q = 6 + 4 * nC := by rw [gpD_ev, beg_nC F hq h]
theorem beg_nD (h : 8 + 4 * nC ≤ l) : gnD q = nD := by
 have p := show pN nC nD nI nO = 10 + 4 * nC + 5 * nD + 2 * nI + 2 * nO from rfl
 have := F.c0; have := F.d0; have := F.i0; have := F.o0; have := F.d1
 show beN q (gpD q) 2 = nD
 rw [beg_D0 F hq (by omega)]
 have e : ∀ t : Int, 0 ≤ t → t < 2 → byt q (6 + 4 * nC + t) = nby nD 2 t := fun t t0 t1 => by
  rw [hq _ (by omega) (by omega) (by omega)]; exact pB_nD cC cD cS cI cO F.c0 t0 t1
 rw [be2, show byt q (6 + 4 * nC) = byt q (6 + 4 * nC + 0) by rw [Int.add_zero], e 0 (by decide) (by decide), e 1 (by decide) (by decide)]
 exact nby_sum2 (by omega) (by omega)
theorem beg_D {k : Int} (k0 : 0 ≤ k) (k1 : k < nD) (h : 8 + 4 * nC + 5 * k + 4 ≤ l) : beN q (8 + 4 * nC + 5 * k) 4 = IntKind.wrap .u32 (IntKind.wrap .i32 (rdZ cD k)) := by
 have p := show pN nC nD nI nO = 10 + 4 * nC + 5 * nD + 2 * nI + 2 * nO from rfl
 have := F.c0; have := F.d0; have := F.i0; have := F.o0
 have e : ∀ t : Int, 0 ≤ t → t < 4 → byt q (8 + 4 * nC + 5 * k + t) = nby (IntKind.wrap .i32 (rdZ cD k)) 4 t := fun t t0 t1 => by
  rw [hq _ (by omega) (by omega) (by omega)]; exact pB_D cC cD cS cI cO F.c0 k0 k1 t0 t1
 rw [be4, show byt q (8 + 4 * nC + 5 * k) = byt q (8 + 4 * nC + 5 * k + 0) by rw [Int.add_zero], e 0 (by decide) (by decide), e 1 (by decide) (by decide), e 2 (by decide) (by decide), e 3 (by decide) (by decide), nby_sum4]
theorem beg_S {k : Int} (k0 : 0 ≤ k) (k1 : k < nD) (h : 8 + 4 * nC + 5 * k + 5 ≤ l) : byt q (8 + 4 * nC + 5 * k + 4) = if rdZ cS k ≠ 0 then 1 else 0 := by
 have p := show pN nC nD nI nO = 10 + 4 * nC + 5 * nD + 2 * nI + 2 * nO from rfl
 have := F.c0; have := F.d0; have := F.i0; have := F.o0
 rw [hq _ (by omega) (by omega) (by omega)]; exact pB_S cC cD cS cI cO F.c0 k0 k1
theorem beg_sec (h : 8 + 4 * nC ≤ l) (k : Nat) (hk : (k : Int) < gnD q) : ¬ badSec q l k := by
 rw [beg_nD F hq h] at hk
 rintro ⟨h1, h2⟩
 have := F.c0
 rw [beg_D0 F hq (by omega)] at h1 h2
 rw [show 6 + 4 * nC + 2 + 5 * (k : Int) + 4 = 8 + 4 * nC + 5 * k + 4 by omega, beg_S F hq (by omega) hk (by omega)] at h2
 split at h2 <;> omega
theorem beg_I0 (h : 8 + 4 * nC ≤ l) : gpI q = 8 + 4 * nC + 5 * nD := by
 have := F.c0
 rw [gpI_ev, beg_D0 F hq (by omega), beg_nD F hq h]; omega
theorem beg_nI (h : 9 + 4 * nC + 5 * nD ≤ l) : gnI q = nI := by
 have p := show pN nC nD nI nO = 10 + 4 * nC + 5 * nD + 2 * nI + 2 * nO from rfl
 have := F.c0; have := F.d0; have := F.i0; have := F.o0; have := F.i1
 show beN q (gpI q) 1 = nI
 rw [beg_I0 F hq (by omega), be1, hq _ (by omega) (by omega) (by omega), pB_nI cC cD cS cI cO F.c0 F.d0]
 exact nby_1 (by omega) (by omega)
theorem beg_I {k : Int} (k0 : 0 ≤ k) (k1 : k < nI) (h : 9 + 4 * nC + 5 * nD + 2 * k + 2 ≤ l) (a0 : 0 ≤ IntKind.wrap .i64 (rdZ cI k)) (a1 : IntKind.wrap .i64 (rdZ cI k) < nD) : beN q (9 + 4 * nC + 5 * nD + 2 * k) 2 = IntKind.wrap .i64 (rdZ cI k) := by
 have p := show pN nC nD nI nO = 10 + 4 * nC + 5 * nD + 2 * nI + 2 * nO from rfl
 have := F.c0; have := F.d0; have := F.i0; have := F.o0; have := F.d1
 have e : ∀ t : Int, 0 ≤ t → t < 2 → byt q (9 + 4 * nC + 5 * nD + 2 * k + t) = nby (IntKind.wrap .i64 (rdZ cI k)) 2 t := fun t t0 t1 => by
  rw [hq _ (by omega) (by omega) (by omega)]; exact pB_I cC cD cS cI cO F.c0 F.d0 k0 k1 t0 t1
 rw [be2, show byt q (9 + 4 * nC + 5 * nD + 2 * k) = byt q (9 + 4 * nC + 5 * nD + 2 * k + 0) by rw [Int.add_zero], e 0 (by decide) (by decide), e 1 (by decide) (by decide)]
 exact nby_sum2 a0 (by omega)
theorem beg_O0 (h : 9 + 4 * nC + 5 * nD ≤ l) : gpO q = 9 + 4 * nC + 5 * nD + 2 * nI := by
 have := F.d0
 rw [gpO_ev, beg_I0 F hq (by omega), beg_nI F hq h]; omega
theorem beg_nO (h : 10 + 4 * nC + 5 * nD + 2 * nI ≤ l) : gnO q = nO := by
 have p := show pN nC nD nI nO = 10 + 4 * nC + 5 * nD + 2 * nI + 2 * nO from rfl
 have := F.c0; have := F.d0; have := F.i0; have := F.o0; have := F.o1
 show beN q (gpO q) 1 = nO
 rw [beg_O0 F hq (by omega), be1, hq _ (by omega) (by omega) (by omega), pB_nO cC cD cS cI cO F.c0 F.d0 F.i0]
 exact nby_1 (by omega) (by omega)
theorem beg_O {k : Int} (k0 : 0 ≤ k) (k1 : k < nO) (h : 10 + 4 * nC + 5 * nD + 2 * nI + 2 * k + 2 ≤ l) (a0 : 0 ≤ IntKind.wrap .i64 (rdZ cO k)) (a1 : IntKind.wrap .i64 (rdZ cO k) < nD) : beN q (10 + 4 * nC + 5 * nD + 2 * nI + 2 * k) 2 = IntKind.wrap .i64 (rdZ cO k) := by
 have p := show pN nC nD nI nO = 10 + 4 * nC + 5 * nD + 2 * nI + 2 * nO from rfl
 have := F.c0; have := F.d0; have := F.i0; have := F.o0; have := F.d1
 have e : ∀ t : Int, 0 ≤ t → t < 2 → byt q (10 + 4 * nC + 5 * nD + 2 * nI + 2 * k + t) = nby (IntKind.wrap .i64 (rdZ cO k)) 2 t := fun t t0 t1 => by
  rw [hq _ (by omega) (by omega) (by omega)]; exact pB_O cC cD cS cI cO F.c0 F.d0 F.i0 k0 t0 t1
 rw [be2, show byt q (10 + 4 * nC + 5 * nD + 2 * nI + 2 * k) = byt q (10 + 4 * nC + 5 * nD + 2 * nI + 2 * k + 0) by rw [Int.add_zero], e 0 (by decide) (by decide), e 1 (by decide) (by decide)]
 exact nby_sum2 a0 (by omega)
theorem beg_E0 (h : 10 + 4 * nC + 5 * nD + 2 * nI ≤ l) : gpE q = pN nC nD nI nO := by
 have p := show pN nC nD nI nO = 10 + 4 * nC + 5 * nD + 2 * nI + 2 * nO from rfl
 have := F.i0; have := F.d0
 rw [gpE_ev, beg_O0 F hq (by omega), beg_nO F hq h]; omega
theorem beg_short (l0 : 0 ≤ l) (hl : l < pN nC nD nI nO) : gtF q l = 4 := by
 have p := show pN nC nD nI nO = 10 + 4 * nC + 5 * nD + 2 * nI + 2 * nO from rfl
 have := F.c0; have := F.d0; have := F.i0; have := F.o0
 by_cases h1 : l < 4
 ·exact g_s0 h1
 have hm := beg_mag F hq (by omega)
 by_cases h2 : l < 6
 ·exact g_s1 (by omega) hm h2
 by_cases h3 : l < 8 + 4 * nC
 ·exact g_s2 hm (by omega) (by rw [beg_D0 F hq (by omega)]; omega)
 have hs := beg_sec F hq (by omega)
 by_cases h4 : l < 9 + 4 * nC + 5 * nD
 ·exact g_s3 hm (by rw [beg_D0 F hq (by omega)]; omega) hs (by rw [beg_I0 F hq (by omega)]; omega)
 by_cases h5 : l < 10 + 4 * nC + 5 * nD + 2 * nI
 ·exact g_s4 hm hs (by rw [beg_I0 F hq (by omega)]; omega) (by rw [beg_O0 F hq (by omega)]; omega)
 ·exact g_s5 hm hs (by rw [beg_O0 F hq (by omega)]; omega) (by rw [beg_E0 F hq (by omega)]; exact hl)
theorem beg_long (hl : pN nC nD nI nO < l) : gtF q l = 5 := by
 have p := show pN nC nD nI nO = 10 + 4 * nC + 5 * nD + 2 * nI + 2 * nO from rfl
 have := F.c0; have := F.d0; have := F.i0; have := F.o0
 exact g_long (beg_mag F hq (by omega)) (beg_sec F hq (by omega)) (by rw [beg_E0 F hq (by omega)]; exact hl)
theorem beg_all (hl : l = pN nC nD nI nO) (hI : adP cI nI nD) (hO : adP cO nO nD) :
  gtF q l = chk7 nC nD nD nI nO cI cO ∧ gnC q = nC ∧ gnD q = nD ∧ gnI q = nI ∧ gnO q = nO ∧ (∀ k : Nat, (k : Int) < nC → rdZ (gtC q 0) k = IntKind.wrap .u32 (rdZ cC k)) ∧ (∀ k : Nat, (k : Int) < nD → rdZ (gtC q 1) k = IntKind.wrap .i32 (rdZ cD k)) ∧
  (∀ k : Nat, (k : Int) < nD → (rdZ (gtC q 2) k ≠ 0 ↔ rdZ cS k ≠ 0)) ∧ (∀ k : Nat, (k : Int) < nI → rdZ (gtC q 3) k = IntKind.wrap .i64 (rdZ cI k)) ∧ (∀ k : Nat, (k : Int) < nO → rdZ (gtC q 4) k = IntKind.wrap .i64 (rdZ cO k)) := by
 have p := show pN nC nD nI nO = 10 + 4 * nC + 5 * nD + 2 * nI + 2 * nO from rfl
 have := F.c0; have := F.d0; have := F.i0; have := F.o0
 have eC := beg_nC F hq (by omega)
 have eD := beg_nD F hq (by omega)
 have eI := beg_nI F hq (by omega)
 have eO := beg_nO F hq (by omega)
 have rI : ∀ k : Nat, (k : Int) < nI → rdZ (gtC q 3) k = IntKind.wrap .i64 (rdZ cI k) := fun k hk => by
  rw [gtC_rd q 3 (show (k : Int) < gnF q 3 from by show (k : Int) < gnI q; omega)]
  show beN q (gpI q + 1 + 2 * k) 2 = _
  rw [beg_I0 F hq (by omega), show 8 + 4 * nC + 5 * nD + 1 + 2 * (k : Int) = 9 + 4 * nC + 5 * nD + 2 * k by omega]
  exact beg_I F hq (by omega) hk (by omega) (hI k hk).1 (hI k hk).2
 have rO : ∀ k : Nat, (k : Int) < nO → rdZ (gtC q 4) k = IntKind.wrap .i64 (rdZ cO k) := fun k hk => by
  rw [gtC_rd q 4 (show (k : Int) < gnF q 4 from by show (k : Int) < gnO q; omega)]
  show beN q (gpO q + 1 + 2 * k) 2 = _
  rw [beg_O0 F hq (by omega), show 9 + 4 * nC + 5 * nD + 2 * nI + 1 + 2 * (k : Int) = 10 + 4 * nC + 5 * nD + 2 * nI + 2 * k by omega]
  exact beg_O F hq (by omega) hk (by omega) (hO k hk).1 (hO k hk).2
 refine ⟨?_, eC, eD, eI, eO, fun k hk => ?_, fun k hk => ?_, fun k hk => ?_, rI, rO⟩
 ·rw [g_chk (beg_mag F hq (by omega)) (beg_sec F hq (by omega)) (by rw [beg_E0 F hq (by omega)]; exact hl), eC, eD, eI, eO]
  exact chk_congr (fun k hk => by rw [rI k hk, w64_id]) (fun k hk => by rw [rO k hk, w64_id])
 ·rw [gtC_rd q 0 (show (k : Int) < gnF q 0 from by show (k : Int) < gnC q; omega)]
  exact beg_C F hq (by omega) hk (by omega)
 ·rw [gtC_rd q 1 (show (k : Int) < gnF q 1 from by show (k : Int) < gnD q; omega)]
  show IntKind.wrap .i32 (beN q (gpD q + 2 + 5 * k) 4) = _
  rw [beg_D0 F hq (by omega), show 6 + 4 * nC + 2 + 5 * (k : Int) = 8 + 4 * nC + 5 * k by omega, beg_D F hq (by omega) hk (by omega)]
  rw [show IntKind.wrap .i32 (IntKind.wrap .u32 (IntKind.wrap .i32 (rdZ cD k))) = IntKind.wrap .i32 (IntKind.wrap .i32 (rdZ cD k)) from wrap_wrap .i32 .u32 _ (by decide)]
  exact wrap_wrap .i32 .i32 _ (by decide)
 ·rw [gtC_rd q 2 (show (k : Int) < gnF q 2 from by show (k : Int) < gnD q; omega)]
  show (if byt q (gpD q + 2 + 5 * k + 4) = 1 then (1 : Int) else 0) ≠ 0 ↔ _
  rw [beg_D0 F hq (by omega), show 6 + 4 * nC + 2 + 5 * (k : Int) + 4 = 8 + 4 * nC + 5 * k + 4 by omega, beg_S F hq (by omega) hk (by omega)]
  by_cases e : rdZ cS k = 0
  ·simp [e]
  ·simp [e]
end
theorem beg_put (nC nD nI nO cC cD cS cI cO : Int) (h : 0 ≤ pN nC nD nI nO) (l : Int) : Beg nC nD nI nO cC cD cS cI cO (slcZ (pC nC nD nI nO cC cD cS cI cO) (pN nC nD nI nO)) l := by
 intro i h0 _ h2
 obtain ⟨k, rfl⟩ : ∃ k : Nat, i = k := ⟨i.toNat, by omega⟩
 rw [slc_by h h2, pC_by _ _ _ _ _ _ _ _ _ h2]
theorem chk_fit {nC nD nS nI nO cI cO : Int} (h : chk7 nC nD nS nI nO cI cO = 0) (h0 : 0 ≤ nC) (h1 : 0 ≤ nD) (h2 : 0 ≤ nI) (h3 : 0 ≤ nO) : ImFit nC nD nI nO := by
 obtain ⟨a, b, c, d, _⟩ := chk_zero h
 exact ⟨h0, a, h1, b, h2, c, h3, d⟩
theorem put_get {nC nD nI nO cC cD cS cI cO : Int} (h : chk7 nC nD nD nI nO cI cO = 0) (h0 : 0 ≤ nC) (h1 : 0 ≤ nD) (h2 : 0 ≤ nI) (h3 : 0 ≤ nO) :
  let q := slcZ (pC nC nD nI nO cC cD cS cI cO) (pN nC nD nI nO)
  let n := pN nC nD nI nO + 2
  gtE q n = 0 ∧ gtN q n 0 = nC ∧ gtN q n 1 = nD ∧ gtN q n 2 = nD ∧ gtN q n 3 = nI ∧ gtN q n 4 = nO ∧ (∀ k : Nat, (k : Int) < nC → rdZ (gtC q 0) k = IntKind.wrap .u32 (rdZ cC k)) ∧ (∀ k : Nat, (k : Int) < nD → rdZ (gtC q 1) k = IntKind.wrap .i32 (rdZ cD k)) ∧
  (∀ k : Nat, (k : Int) < nD → (rdZ (gtC q 2) k ≠ 0 ↔ rdZ cS k ≠ 0)) ∧ (∀ k : Nat, (k : Int) < nI → rdZ (gtC q 3) k = IntKind.wrap .i64 (rdZ cI k)) ∧ (∀ k : Nat, (k : Int) < nO → rdZ (gtC q 4) k = IntKind.wrap .i64 (rdZ cO k)) := by
 intro q n
 have F := chk_fit h h0 h1 h2 h3
 have hp : 0 ≤ pN nC nD nI nO := by unfold pN; omega
 obtain ⟨_, _, _, _, _, hI, hO, _⟩ := chk_zero h
 obtain ⟨a0, a1, a2, a3, a4, a5, a6, a7, a8, a9⟩ := beg_all F (beg_put nC nD nI nO cC cD cS cI cO hp (pN nC nD nI nO)) rfl hI hO
 have hE : gtE q n = 0 := by
  rw [gtE_in (ope_slc _ hp)]
  show gtF q (pN nC nD nI nO + 2 - 2) = 0
  rw [show pN nC nD nI nO + 2 - 2 = pN nC nD nI nO by omega, a0, h]
 exact ⟨hE, by rw [gtN_ok hE]; exact a1, by rw [gtN_ok hE]; exact a2, by rw [gtN_ok hE]; exact a2, by rw [gtN_ok hE]; exact a3, by rw [gtN_ok hE]; exact a4, a5, a6, a7, a8, a9⟩
end Go.Eng
end
