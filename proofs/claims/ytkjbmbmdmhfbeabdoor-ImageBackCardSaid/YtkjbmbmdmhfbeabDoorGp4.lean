/-
  Parts of the engine, a program's symbolic run, proved sound; and of plain laws.
-/
import Derived.Test.YtkjbmbmdmhfbeabDoorGp3
set_option linter.unusedVariables false
set_option linter.unusedSimpArgs false
/-!  -/
noncomputable section
namespace Go.Eng
theorem nby_sum4 (x : Int) : 256 * (256 * (256 * nby x 4 0 + nby x 4 1) + nby x 4 2) + nby x 4 3 = IntKind.wrap .u32 x := by
 rw [nby40, nby41, nby42, nby43]
 have := u32_bd x
 omega
theorem nby20 (x : Int) : nby x 2 0 = IntKind.wrap .u32 x / 256 % 256 := rfl
theorem nby21 (x : Int) : nby x 2 1 = IntKind.wrap .u32 x % 256 := by
 show IntKind.wrap .u32 x / 1 % 256 = _
 rw [Int.ediv_one]
theorem nby10 (x : Int) : nby x 1 0 = IntKind.wrap .u32 x % 256 := by
 show IntKind.wrap .u32 x / 1 % 256 = _
 rw [Int.ediv_one]
theorem u32_in {x : Int} (h0 : 0 ≤ x) (h1 : x ≤ 4294967295) : IntKind.wrap .u32 x = x := qZm .u32 _ h0 h1
theorem nby_sum2 {x : Int} (h0 : 0 ≤ x) (h1 : x ≤ 65535) : 256 * nby x 2 0 + nby x 2 1 = x := by
 rw [nby20, nby21, u32_in h0 (by omega)]
 omega
theorem nby_1 {x : Int} (h0 : 0 ≤ x) (h1 : x ≤ 255) : nby x 1 0 = x := by
 rw [nby10, u32_in h0 (by omega)]
 omega
theorem slc_by {q m : Int} (h0 : 0 ≤ m) {i : Nat} (hi : (i : Int) < m) : byt (slcZ q m) i = byt q i := by
 unfold byt
 rw [slc_rd h0, if_neg (by omega), if_neg (by omega)]
theorem ope_slc (q : Int) {m : Int} (h0 : 0 ≤ m) : opeZ (slcZ q m) (m + 2) = 0 := by
 have hc := crcZ_bd q m
 have e : crcZ (slcZ q m) m = crcZ q m := crcF_congr m.toNat fun i hi => slc_by h0 (by omega)
 obtain ⟨k, rfl⟩ : ∃ k : Nat, m = k := ⟨m.toNat, by omega⟩
 unfold opeZ
 rw [if_neg (by omega), show (k : Int) + 2 - 2 = (k : Int) by omega, show (k : Int) + 2 - 1 = ((k + 1 : Nat) : Int) by omega, e]
 refine if_pos ⟨?_, ?_⟩
 ·unfold byt
  rw [slc_rd h0, if_neg (by omega), if_pos rfl]
  exact w8 (by omega) (by omega)
 ·unfold byt
  rw [slc_rd h0, if_pos (by omega)]
  exact w8 (by omega) (by omega)
section
variable {nC nD nI nO cC cD cS cI cO q l : Int}
structure ImFit (nC nD nI nO : Int) : Prop where
 c0 : 0 ≤ nC
 c1 : nC ≤ 16384
 d0 : 0 ≤ nD
 d1 : nD ≤ 2048
 i0 : 0 ≤ nI
 i1 : nI ≤ 255
 o0 : 0 ≤ nO
 o1 : nO ≤ 255
def Beg (nC nD nI nO cC cD cS cI cO q l : Int) : Prop := ∀ i : Int, 0 ≤ i → i < l → i < pN nC nD nI nO → byt q i = pB nC nD nI nO cC cD cS cI cO i
variable (F : ImFit nC nD nI nO) (hq : Beg nC nD nI nO cC cD cS cI cO q l)
include F hq
theorem beg_mag (h : 4 ≤ l) : beN q 0 4 = 1095980081 := by
 have p := show pN nC nD nI nO = 10 + 4 * nC + 5 * nD + 2 * nI + 2 * nO from rfl
 have := F.c0; have := F.d0; have := F.i0; have := F.o0
 rw [← mag_iff]
 intro i hi
 have := hq i (by omega) (by omega) (by omega)
 have h2 := pB_mag nC nD nI nO cC cD cS cI cO i hi
 rw [h2]; exact this
theorem beg_nC (h : 6 ≤ l) : gnC q = nC := by
 have p := show pN nC nD nI nO = 10 + 4 * nC + 5 * nD + 2 * nI + 2 * nO from rfl
 have := F.c0; have := F.d0; have := F.i0; have := F.o0; have := F.c1
 unfold gnC
 rw [be2, hq 4 (by omega) (by omega) (by omega), hq (4 + 1) (by omega) (by omega) (by omega)]
 rw [show pB nC nD nI nO cC cD cS cI cO 4 = nby nC 2 0 from pB_nC cC cD cS cI cO (t := 0) (by decide) (by decide), pB_nC cC cD cS cI cO (t := 1) (by decide) (by decide)]
 exact nby_sum2 (by omega) (by omega)
theorem beg_C {k : Int} (k0 : 0 ≤ k) (k1 : k < nC) (h : 6 + 4 * k + 4 ≤ l) : beN q (6 + 4 * k) 4 = IntKind.wrap .u32 (rdZ cC k) := by
 have p := show pN nC nD nI nO = 10 + 4 * nC + 5 * nD + 2 * nI + 2 * nO from rfl
 have := F.c0; have := F.d0; have := F.i0; have := F.o0
 have e : ∀ t : Int, 0 ≤ t → t < 4 → byt q (6 + 4 * k + t) = nby (IntKind.wrap .u32 (rdZ cC k)) 4 t := fun t t0 t1 => by
  rw [hq (6 + 4 * k + t) (by omega) (by omega) (by omega)]; exact pB_C cC cD cS cI cO k0 k1 t0 t1
 rw [be4, show byt q (6 + 4 * k) = byt q (6 + 4 * k + 0) by rw [Int.add_zero], e 0 (by decide) (by decide), e 1 (by decide) (by decide), e 2 (by decide) (by decide), e 3 (by decide) (by decide), nby_sum4]
 exact wrap_wrap .u32 .u32 _ (by decide)
theorem beg_D0 (h : 6 ≤ l) : gpD q = 6 + 4 * nC := by rw [gpD_ev, beg_nC F hq h]
theorem beg_nD (h : 8 + 4 * nC ≤ l) : gnD q = nD := by
 have p := show pN nC nD nI nO = 10 + 4 * nC + 5 * nD + 2 * nI + 2 * nO from rfl
 have := F.c0; have := F.d0; have := F.i0; have := F.o0; have := F.d1
 show beN q (gpD q) 2 = nD
 rw [beg_D0 F hq (by omega)]
 have e : ∀ t : Int, 0 ≤ t → t < 2 → byt q (6 + 4 * nC + t) = nby nD 2 t := fun t t0 t1 => by
  rw [hq _ (by omega) (by omega) (by omega)]; exact pB_nD cC cD cS cI cO F.c0 t0 t1
 rw [be2, show byt q (6 + 4 * nC) = byt q (6 + 4 * nC + 0) by rw [Int.add_zero], e 0 (by decide) (by decide), e 1 (by decide) (by decide)]
 exact nby_sum2 (by omega) (by omega)
theorem beg_D {k : Int} (k0 : 0 ≤ k) (k1 : k < nD) (h : 8 + 4 * nC + 5 * k + 4 ≤ l) : beN q (8 + 4 * nC + 5 * k) 4 = IntKind.wrap .u32 (IntKind.wrap .i32 (rdZ cD k)) := by
 have p := show pN nC nD nI nO = 10 + 4 * nC + 5 * nD + 2 * nI + 2 * nO from rfl
 have := F.c0; have := F.d0; have := F.i0; have := F.o0
 have e : ∀ t : Int, 0 ≤ t → t < 4 → byt q (8 + 4 * nC + 5 * k + t) = nby (IntKind.wrap .i32 (rdZ cD k)) 4 t := fun t t0 t1 => by
  rw [hq _ (by omega) (by omega) (by omega)]; exact pB_D cC cD cS cI cO F.c0 k0 k1 t0 t1
 rw [be4, show byt q (8 + 4 * nC + 5 * k) = byt q (8 + 4 * nC + 5 * k + 0) by rw [Int.add_zero], e 0 (by decide) (by decide), e 1 (by decide) (by decide), e 2 (by decide) (by decide), e 3 (by decide) (by decide), nby_sum4]
theorem beg_S {k : Int} (k0 : 0 ≤ k) (k1 : k < nD) (h : 8 + 4 * nC + 5 * k + 5 ≤ l) : byt q (8 + 4 * nC + 5 * k + 4) = if rdZ cS k ≠ 0 then 1 else 0 := by
 have p := show pN nC nD nI nO = 10 + 4 * nC + 5 * nD + 2 * nI + 2 * nO from rfl
 have := F.c0; have := F.d0; have := F.i0; have := F.o0
 rw [hq _ (by omega) (by omega) (by omega)]; exact pB_S cC cD cS cI cO F.c0 k0 k1
theorem beg_sec (h : 8 + 4 * nC ≤ l) (k : Nat) (hk : (k : Int) < gnD q) : ¬ qKy q l k := by
 rw [beg_nD F hq h] at hk
 rintro ⟨h1, h2⟩
 have := F.c0
 rw [beg_D0 F hq (by omega)] at h1 h2
 rw [show 6 + 4 * nC + 2 + 5 * (k : Int) + 4 = 8 + 4 * nC + 5 * k + 4 by omega, beg_S F hq (by omega) hk (by omega)] at h2
 split at h2 <;> omega
theorem beg_I0 (h : 8 + 4 * nC ≤ l) : gpI q = 8 + 4 * nC + 5 * nD := by
 have := F.c0
 rw [gpI_ev, beg_D0 F hq (by omega), beg_nD F hq h]; omega
theorem beg_nI (h : 9 + 4 * nC + 5 * nD ≤ l) : gnI q = nI := by
 have p := show pN nC nD nI nO = 10 + 4 * nC + 5 * nD + 2 * nI + 2 * nO from rfl
 have := F.c0; have := F.d0; have := F.i0; have := F.o0; have := F.i1
 show beN q (gpI q) 1 = nI
 rw [beg_I0 F hq (by omega), be1, hq _ (by omega) (by omega) (by omega), pB_nI cC cD cS cI cO F.c0 F.d0]
 exact nby_1 (by omega) (by omega)
theorem beg_I {k : Int} (k0 : 0 ≤ k) (k1 : k < nI) (h : 9 + 4 * nC + 5 * nD + 2 * k + 2 ≤ l) (a0 : 0 ≤ IntKind.wrap .i64 (rdZ cI k)) (a1 : IntKind.wrap .i64 (rdZ cI k) < nD) : beN q (9 + 4 * nC + 5 * nD + 2 * k) 2 = IntKind.wrap .i64 (rdZ cI k) := by
 have p := show pN nC nD nI nO = 10 + 4 * nC + 5 * nD + 2 * nI + 2 * nO from rfl
 have := F.c0; have := F.d0; have := F.i0; have := F.o0; have := F.d1
 have e : ∀ t : Int, 0 ≤ t → t < 2 → byt q (9 + 4 * nC + 5 * nD + 2 * k + t) = nby (IntKind.wrap .i64 (rdZ cI k)) 2 t := fun t t0 t1 => by
  rw [hq _ (by omega) (by omega) (by omega)]; exact pB_I cC cD cS cI cO F.c0 F.d0 k0 k1 t0 t1
 rw [be2, show byt q (9 + 4 * nC + 5 * nD + 2 * k) = byt q (9 + 4 * nC + 5 * nD + 2 * k + 0) by rw [Int.add_zero], e 0 (by decide) (by decide), e 1 (by decide) (by decide)]
 exact nby_sum2 a0 (by omega)
theorem beg_O0 (h : 9 + 4 * nC + 5 * nD ≤ l) : gpO q = 9 + 4 * nC + 5 * nD + 2 * nI := by
 have := F.d0
 rw [gpO_ev, beg_I0 F hq (by omega), beg_nI F hq h]; omega
theorem beg_nO (h : 10 + 4 * nC + 5 * nD + 2 * nI ≤ l) : gnO q = nO := by
 have p := show pN nC nD nI nO = 10 + 4 * nC + 5 * nD + 2 * nI + 2 * nO from rfl
 have := F.c0; have := F.d0; have := F.i0; have := F.o0; have := F.o1
 show beN q (gpO q) 1 = nO
 rw [beg_O0 F hq (by omega), be1, hq _ (by omega) (by omega) (by omega), pB_nO cC cD cS cI cO F.c0 F.d0 F.i0]
 exact nby_1 (by omega) (by omega)
theorem beg_O {k : Int} (k0 : 0 ≤ k) (k1 : k < nO) (h : 10 + 4 * nC + 5 * nD + 2 * nI + 2 * k + 2 ≤ l) (a0 : 0 ≤ IntKind.wrap .i64 (rdZ cO k)) (a1 : IntKind.wrap .i64 (rdZ cO k) < nD) : beN q (10 + 4 * nC + 5 * nD + 2 * nI + 2 * k) 2 = IntKind.wrap .i64 (rdZ cO k) := by
 have p := show pN nC nD nI nO = 10 + 4 * nC + 5 * nD + 2 * nI + 2 * nO from rfl
 have := F.c0; have := F.d0; have := F.i0; have := F.o0; have := F.d1
 have e : ∀ t : Int, 0 ≤ t → t < 2 → byt q (10 + 4 * nC + 5 * nD + 2 * nI + 2 * k + t) = nby (IntKind.wrap .i64 (rdZ cO k)) 2 t := fun t t0 t1 => by
  rw [hq _ (by omega) (by omega) (by omega)]; exact pB_O cC cD cS cI cO F.c0 F.d0 F.i0 k0 t0 t1
 rw [be2, show byt q (10 + 4 * nC + 5 * nD + 2 * nI + 2 * k) = byt q (10 + 4 * nC + 5 * nD + 2 * nI + 2 * k + 0) by rw [Int.add_zero], e 0 (by decide) (by decide), e 1 (by decide) (by decide)]
 exact nby_sum2 a0 (by omega)
theorem beg_E0 (h : 10 + 4 * nC + 5 * nD + 2 * nI ≤ l) : gpE q = pN nC nD nI nO := by
 have p := show pN nC nD nI nO = 10 + 4 * nC + 5 * nD + 2 * nI + 2 * nO from rfl
 have := F.i0; have := F.d0
 rw [gpE_ev, beg_O0 F hq (by omega), beg_nO F hq h]; omega
theorem beg_all (hl : l = pN nC nD nI nO) (hI : adP cI nI nD) (hO : adP cO nO nD) :
  gtF q l = chk7 nC nD nD nI nO cI cO ∧ gnC q = nC ∧ gnD q = nD ∧ gnI q = nI ∧ gnO q = nO ∧ (∀ k : Nat, (k : Int) < nC → rdZ (gtC q 0) k = IntKind.wrap .u32 (rdZ cC k)) ∧ (∀ k : Nat, (k : Int) < nD → rdZ (gtC q 1) k = IntKind.wrap .i32 (rdZ cD k)) ∧
  (∀ k : Nat, (k : Int) < nD → (rdZ (gtC q 2) k ≠ 0 ↔ rdZ cS k ≠ 0)) ∧ (∀ k : Nat, (k : Int) < nI → rdZ (gtC q 3) k = IntKind.wrap .i64 (rdZ cI k)) ∧ (∀ k : Nat, (k : Int) < nO → rdZ (gtC q 4) k = IntKind.wrap .i64 (rdZ cO k)) := by
 have p := show pN nC nD nI nO = 10 + 4 * nC + 5 * nD + 2 * nI + 2 * nO from rfl
 have := F.c0; have := F.d0; have := F.i0; have := F.o0
 have eC := beg_nC F hq (by omega)
 have eD := beg_nD F hq (by omega)
 have eI := beg_nI F hq (by omega)
 have eO := beg_nO F hq (by omega)
 have rI : ∀ k : Nat, (k : Int) < nI → rdZ (gtC q 3) k = IntKind.wrap .i64 (rdZ cI k) := fun k hk => by
  rw [qXe q 3 (show (k : Int) < gnF q 3 from by show (k : Int) < gnI q; omega)]
  show beN q (gpI q + 1 + 2 * k) 2 = _
  rw [beg_I0 F hq (by omega), show 8 + 4 * nC + 5 * nD + 1 + 2 * (k : Int) = 9 + 4 * nC + 5 * nD + 2 * k by omega]
  exact beg_I F hq (by omega) hk (by omega) (hI k hk).1 (hI k hk).2
 have rO : ∀ k : Nat, (k : Int) < nO → rdZ (gtC q 4) k = IntKind.wrap .i64 (rdZ cO k) := fun k hk => by
  rw [qXe q 4 (show (k : Int) < gnF q 4 from by show (k : Int) < gnO q; omega)]
  show beN q (gpO q + 1 + 2 * k) 2 = _
  rw [beg_O0 F hq (by omega), show 9 + 4 * nC + 5 * nD + 2 * nI + 1 + 2 * (k : Int) = 10 + 4 * nC + 5 * nD + 2 * nI + 2 * k by omega]
  exact beg_O F hq (by omega) hk (by omega) (hO k hk).1 (hO k hk).2
 refine ⟨?_, eC, eD, eI, eO, fun k hk => ?_, fun k hk => ?_, fun k hk => ?_, rI, rO⟩
 ·rw [g_chk (beg_mag F hq (by omega)) (beg_sec F hq (by omega)) (by rw [beg_E0 F hq (by omega)]; exact hl), eC, eD, eI, eO]
  exact chk_congr (fun k hk => by rw [rI k hk, w64_id]) (fun k hk => by rw [rO k hk, w64_id])
 ·rw [qXe q 0 (show (k : Int) < gnF q 0 from by show (k : Int) < gnC q; omega)]
  exact beg_C F hq (by omega) hk (by omega)
 ·rw [qXe q 1 (show (k : Int) < gnF q 1 from by show (k : Int) < gnD q; omega)]
  show IntKind.wrap .i32 (beN q (gpD q + 2 + 5 * k) 4) = _
  rw [beg_D0 F hq (by omega), show 6 + 4 * nC + 2 + 5 * (k : Int) = 8 + 4 * nC + 5 * k by omega, beg_D F hq (by omega) hk (by omega)]
  rw [show IntKind.wrap .i32 (IntKind.wrap .u32 (IntKind.wrap .i32 (rdZ cD k))) = IntKind.wrap .i32 (IntKind.wrap .i32 (rdZ cD k)) from wrap_wrap .i32 .u32 _ (by decide)]
  exact wrap_wrap .i32 .i32 _ (by decide)
 ·rw [qXe q 2 (show (k : Int) < gnF q 2 from by show (k : Int) < gnD q; omega)]
  show (if byt q (gpD q + 2 + 5 * k + 4) = 1 then (1 : Int) else 0) ≠ 0 ↔ _
  rw [beg_D0 F hq (by omega), show 6 + 4 * nC + 2 + 5 * (k : Int) + 4 = 8 + 4 * nC + 5 * k + 4 by omega, beg_S F hq (by omega) hk (by omega)]
  by_cases e : rdZ cS k = 0
  ·simp [e]
  ·simp [e]
end
theorem beg_put (nC nD nI nO cC cD cS cI cO : Int) (h : 0 ≤ pN nC nD nI nO) (l : Int) : Beg nC nD nI nO cC cD cS cI cO (slcZ (pC nC nD nI nO cC cD cS cI cO) (pN nC nD nI nO)) l := by
 intro i h0 _ h2
 obtain ⟨k, rfl⟩ : ∃ k : Nat, i = k := ⟨i.toNat, by omega⟩
 rw [slc_by h h2, pC_by _ _ _ _ _ _ _ _ _ h2]
theorem chk_fit {nC nD nS nI nO cI cO : Int} (h : chk7 nC nD nS nI nO cI cO = 0) (h0 : 0 ≤ nC) (h1 : 0 ≤ nD) (h2 : 0 ≤ nI) (h3 : 0 ≤ nO) : ImFit nC nD nI nO := by
 obtain ⟨a, b, c, d, _⟩ := chk_zero h
 exact ⟨h0, a, h1, b, h2, c, h3, d⟩
theorem put_get {nC nD nI nO cC cD cS cI cO : Int} (h : chk7 nC nD nD nI nO cI cO = 0) (h0 : 0 ≤ nC) (h1 : 0 ≤ nD) (h2 : 0 ≤ nI) (h3 : 0 ≤ nO) :
  let q := slcZ (pC nC nD nI nO cC cD cS cI cO) (pN nC nD nI nO)
  let n := pN nC nD nI nO + 2
  gtE q n = 0 ∧ gtN q n 0 = nC ∧ gtN q n 1 = nD ∧ gtN q n 2 = nD ∧ gtN q n 3 = nI ∧ gtN q n 4 = nO ∧ (∀ k : Nat, (k : Int) < nC → rdZ (gtC q 0) k = IntKind.wrap .u32 (rdZ cC k)) ∧ (∀ k : Nat, (k : Int) < nD → rdZ (gtC q 1) k = IntKind.wrap .i32 (rdZ cD k)) ∧
  (∀ k : Nat, (k : Int) < nD → (rdZ (gtC q 2) k ≠ 0 ↔ rdZ cS k ≠ 0)) ∧ (∀ k : Nat, (k : Int) < nI → rdZ (gtC q 3) k = IntKind.wrap .i64 (rdZ cI k)) ∧ (∀ k : Nat, (k : Int) < nO → rdZ (gtC q 4) k = IntKind.wrap .i64 (rdZ cO k)) := by
 intro q n
 have F := chk_fit h h0 h1 h2 h3
 have hp : 0 ≤ pN nC nD nI nO := by unfold pN; omega
 obtain ⟨_, _, _, _, _, hI, hO, _⟩ := chk_zero h
 obtain ⟨a0, a1, a2, a3, a4, a5, a6, a7, a8, a9⟩ := beg_all F (beg_put nC nD nI nO cC cD cS cI cO hp (pN nC nD nI nO)) rfl hI hO
 have hE : gtE q n = 0 := by
  rw [gtE_in (ope_slc _ hp)]
  show gtF q (pN nC nD nI nO + 2 - 2) = 0
  rw [show pN nC nD nI nO + 2 - 2 = pN nC nD nI nO by omega, a0, h]
 exact ⟨hE, by rw [qJm hE]; exact a1, by rw [qJm hE]; exact a2, by rw [qJm hE]; exact a2, by rw [qJm hE]; exact a3, by rw [qJm hE]; exact a4, a5, a6, a7, a8, a9⟩
theorem nby_be4 (c o : Int) {t : Int} (t0 : 0 ≤ t) (t1 : t < 4) : nby (beN c o 4) 4 t = byt c (o + t) := by
 have hb := be4_bd c o
 have e := be4 c o
 have b0 := qJu c o
 have b1 := qJu c (o + 1)
 have b2 := qJu c (o + 2)
 have b3 := qJu c (o + 3)
 have : t = 0 ∨ t = 1 ∨ t = 2 ∨ t = 3 := by omega
 rcases this with rfl | rfl | rfl | rfl
 ·rw [nby40, u32_in hb.1 hb.2, Int.add_zero]; omega
 ·rw [nby41, u32_in hb.1 hb.2]; omega
 ·rw [nby42, u32_in hb.1 hb.2]; omega
 ·rw [nby43, u32_in hb.1 hb.2]; omega
theorem nby_be2 (c o : Int) {t : Int} (t0 : 0 ≤ t) (t1 : t < 2) : nby (beN c o 2) 2 t = byt c (o + t) := by
 have hb := be2_bd c o
 have e := be2 c o
 have b0 := qJu c o
 have b1 := qJu c (o + 1)
 have : t = 0 ∨ t = 1 := by omega
 rcases this with rfl | rfl
 ·rw [nby20, u32_in hb.1 (by omega), Int.add_zero]; omega
 ·rw [nby21, u32_in hb.1 (by omega)]; omega
theorem nby_be1 (c o : Int) : nby (beN c o 1) 1 0 = byt c o := by
 have hb := be1_bd c o
 rw [nby10, u32_in hb.1 (by omega), be1]
 have := qJu c o
 omega
theorem gtF_zero {c l : Int} (h : gtF c l = 0) : beN c 0 4 = 1095980081 ∧ l = gpE c ∧ (∀ i : Nat, (i : Int) < gnD c → ¬ qKy c l i) ∧ chk7 (gnC c) (gnD c) (gnD c) (gnI c) (gnO c) (gtC c 3) (gtC c 4) = 0 := by
 have hC := gnC_bd c
 have hD := gnD_bd c
 have hI := gnI_bd c
 have hO := gnO_bd c
 have pD := gpD_ev c
 have pI := gpI_ev c
 have pO := gpO_ev c
 have pE := gpE_ev c
 by_cases h1 : l < 4
 ·rw [g_s0 h1] at h; cases h
 by_cases hm : beN c 0 4 = 1095980081
 case neg => rw [g_form (by omega) hm] at h; cases h
 by_cases h2 : l < 6
 ·rw [g_s1 (by omega) hm h2] at h; cases h
 by_cases h3 : l < gpD c + 2
 ·rw [g_s2 hm (by omega) h3] at h; cases h
 have hs : ∀ i : Nat, (i : Int) < gnD c → ¬ qKy c l i := fun i hi hb => by rw [g_sec hm (by omega) hi hb] at h; cases h
 by_cases h4 : l < gpI c + 1
 ·rw [g_s3 hm (by omega) hs h4] at h; cases h
 by_cases h5 : l < gpO c + 1
 ·rw [g_s4 hm hs (by omega) h5] at h; cases h
 by_cases h6 : l < gpE c
 ·rw [g_s5 hm hs (by omega) h6] at h; cases h
 by_cases h7 : gpE c < l
 ·rw [g_long hm hs h7] at h; cases h
 have hl : l = gpE c := by omega
 rw [g_chk hm hs hl] at h
 exact ⟨hm, hl, hs, h⟩
theorem get_by {c l : Int} (h : gtF c l = 0) : pN (gnC c) (gnD c) (gnI c) (gnO c) = l ∧ ∀ i : Int, 0 ≤ i → i < l → pB (gnC c) (gnD c) (gnI c) (gnO c) (gtC c 0) (gtC c 1) (gtC c 2) (gtC c 3) (gtC c 4) i = byt c i := by
 obtain ⟨hm, hl, hs, _⟩ := gtF_zero h
 have hC := gnC_bd c
 have hD := gnD_bd c
 have hI := gnI_bd c
 have hO := gnO_bd c
 have pD := gpD_ev c
 have pI := gpI_ev c
 have pO := gpO_ev c
 have pE := gpE_ev c
 have hp : pN (gnC c) (gnD c) (gnI c) (gnO c) = l := by unfold pN; omega
 refine ⟨hp, fun i i0 i1 => ?_⟩
 have hp2 : pN (gnC c) (gnD c) (gnI c) (gnO c) = 10 + 4 * gnC c + 5 * gnD c + 2 * gnI c + 2 * gnO c := rfl
 by_cases a1 : i < 4
 ·have h1 := (mag_iff c).2 hm i.toNat (by omega)
  have h2 := pB_mag (gnC c) (gnD c) (gnI c) (gnO c) (gtC c 0) (gtC c 1) (gtC c 2) (gtC c 3) (gtC c 4) i.toNat (by omega)
  rw [Int.toNat_of_nonneg i0] at h1 h2
  rw [← h2, ← h1]; rfl
 by_cases a2 : i < 6
 ·rw [show i = 4 + (i - 4) by omega, pB_nC _ _ _ _ _ (by omega) (by omega)]
  exact nby_be2 c 4 (by omega) (by omega)
 by_cases a3 : i < 6 + 4 * gnC c
 ·obtain ⟨k, t, hk, ht, ht2, rfl⟩ : ∃ (k : Nat) (t : Int), (k : Int) < gnC c ∧ 0 ≤ t ∧ t < 4 ∧ i = 6 + 4 * k + t := ⟨((i - 6) / 4).toNat, (i - 6) % 4, by omega, by omega, by omega, by omega⟩
  rw [pB_C _ _ _ _ _ (by omega) hk ht ht2, qXe c 0 (show (k : Int) < gnF c 0 from hk), nby_u32]
  exact nby_be4 c _ ht ht2
 by_cases a4 : i < 8 + 4 * gnC c
 ·rw [show i = 6 + 4 * gnC c + (i - (6 + 4 * gnC c)) by omega, pB_nD _ _ _ _ _ hC.1 (by omega) (by omega)]
  have := nby_be2 c (gpD c) (t := i - (6 + 4 * gnC c)) (by omega) (by omega)
  rw [pD] at this
  rw [← this, ← pD]; rfl
 by_cases a5 : i < 8 + 4 * gnC c + 5 * gnD c
 ·obtain ⟨k, t, hk, ht, ht2, rfl⟩ : ∃ (k : Nat) (t : Int), (k : Int) < gnD c ∧ 0 ≤ t ∧ t < 5 ∧ i = 8 + 4 * gnC c + 5 * k + t := ⟨((i - (8 + 4 * gnC c)) / 5).toNat, (i - (8 + 4 * gnC c)) % 5, by omega, by omega, by omega, by omega⟩
  by_cases b : t < 4
  ·rw [pB_D _ _ _ _ _ hC.1 (by omega) hk ht b, qXe c 1 (show (k : Int) < gnF c 1 from hk), nby_i32]
   show nby (IntKind.wrap .i32 (beN c (gpD c + 2 + 5 * k) 4)) 4 t = _
   rw [nby_i32, nby_be4 c _ ht b]
   congr 1; omega
  ·have e : t = 4 := by omega
   subst e
   rw [pB_S _ _ _ _ _ hC.1 (by omega) hk, qXe c 2 (show (k : Int) < gnF c 2 from hk)]
   show (if (if byt c (gpD c + 2 + 5 * k + 4) = 1 then (1 : Int) else 0) ≠ 0 then (1 : Int) else 0) = _
   have hb := hs k hk
   unfold qKy at hb
   have e2 : gpD c + 2 + 5 * (k : Int) + 4 = 8 + 4 * gnC c + 5 * k + 4 := by omega
   rw [e2] at hb ⊢
   have := qJu c (8 + 4 * gnC c + 5 * k + 4)
   have h01 : byt c (8 + 4 * gnC c + 5 * k + 4) = 0 ∨ byt c (8 + 4 * gnC c + 5 * k + 4) = 1 := by
    by_cases g : 1 < byt c (8 + 4 * gnC c + 5 * k + 4)
    ·exact absurd ⟨by omega, g⟩ hb
    ·omega
   rcases h01 with g | g <;> rw [g] <;> simp
 by_cases a6 : i < 9 + 4 * gnC c + 5 * gnD c
 ·rw [show i = 8 + 4 * gnC c + 5 * gnD c by omega, pB_nI _ _ _ _ _ hC.1 hD.1]
  have := nby_be1 c (gpI c)
  rw [show 8 + 4 * gnC c + 5 * gnD c = gpI c by omega]
  exact this
 by_cases a7 : i < 9 + 4 * gnC c + 5 * gnD c + 2 * gnI c
 ·obtain ⟨k, t, hk, ht, ht2, rfl⟩ : ∃ (k : Nat) (t : Int), (k : Int) < gnI c ∧ 0 ≤ t ∧ t < 2 ∧ i = 9 + 4 * gnC c + 5 * gnD c + 2 * k + t := ⟨((i - (9 + 4 * gnC c + 5 * gnD c)) / 2).toNat, (i - (9 + 4 * gnC c + 5 * gnD c)) % 2, by omega, by omega, by omega, by omega⟩
  rw [pB_I _ _ _ _ _ hC.1 hD.1 (by omega) hk ht ht2, qXe c 3 (show (k : Int) < gnF c 3 from hk)]
  show nby (IntKind.wrap .i64 (beN c (gpI c + 1 + 2 * k) 2)) 2 t = _
  have := be2_bd c (gpI c + 1 + 2 * k)
  rw [w64 (by omega) (by omega), nby_be2 c _ ht ht2]
  congr 1; omega
 by_cases a8 : i < 10 + 4 * gnC c + 5 * gnD c + 2 * gnI c
 ·rw [show i = 9 + 4 * gnC c + 5 * gnD c + 2 * gnI c by omega, pB_nO _ _ _ _ _ hC.1 hD.1 hI.1]
  have := nby_be1 c (gpO c)
  rw [show 9 + 4 * gnC c + 5 * gnD c + 2 * gnI c = gpO c by omega]
  exact this
 ·obtain ⟨k, t, hk, ht, ht2, rfl⟩ : ∃ (k : Nat) (t : Int), (k : Int) < gnO c ∧ 0 ≤ t ∧ t < 2 ∧ i = 10 + 4 * gnC c + 5 * gnD c + 2 * gnI c + 2 * k + t := ⟨((i - (10 + 4 * gnC c + 5 * gnD c + 2 * gnI c)) / 2).toNat, (i - (10 + 4 * gnC c + 5 * gnD c + 2 * gnI c)) % 2, by omega, by omega, by omega, by omega⟩
  rw [pB_O _ _ _ _ _ hC.1 hD.1 hI.1 (by omega) ht ht2, qXe c 4 (show (k : Int) < gnF c 4 from hk)]
  show nby (IntKind.wrap .i64 (beN c (gpO c + 1 + 2 * k) 2)) 2 t = _
  have := be2_bd c (gpO c + 1 + 2 * k)
  rw [w64 (by omega) (by omega), nby_be2 c _ ht ht2]
  congr 1; omega
theorem get_put {c n : Int} (h : gtE c n = 0) :
  chk7 (gnC c) (gnD c) (gnD c) (gnI c) (gnO c) (gtC c 3) (gtC c 4) = 0 ∧ pN (gnC c) (gnD c) (gnI c) (gnO c) + 2 = n ∧
  ∀ i : Nat, (i : Int) < n → IntKind.wrap .u8 (rdZ (slcZ (pC (gnC c) (gnD c) (gnI c) (gnO c) (gtC c 0) (gtC c 1) (gtC c 2) (gtC c 3) (gtC c 4)) (pN (gnC c) (gnD c) (gnI c) (gnO c))) i) = IntKind.wrap .u8 (rdZ c i) := by
 have ho : opeZ c n = 0 := by
  by_cases g : opeZ c n = 0
  ·exact g
  ·rw [gtE_open g] at h; exact absurd h g
 rw [gtE_in ho] at h
 obtain ⟨_, _, _, hchk⟩ := gtF_zero h
 obtain ⟨hp, hby⟩ := get_by h
 have hn := ope_len ho
 have hp0 : 0 ≤ pN (gnC c) (gnD c) (gnI c) (gnO c) := by omega
 refine ⟨hchk, by omega, fun i hi => ?_⟩
 have hpc : ∀ k : Nat, (k : Int) < n - 2 → byt (pC (gnC c) (gnD c) (gnI c) (gnO c) (gtC c 0) (gtC c 1) (gtC c 2) (gtC c 3) (gtC c 4)) k = byt c k := fun k hk => by
  rw [pC_by _ _ _ _ _ _ _ _ _ (by omega)]; exact hby k (by omega) hk
 have hcr : crcZ (pC (gnC c) (gnD c) (gnI c) (gnO c) (gtC c 0) (gtC c 1) (gtC c 2) (gtC c 3) (gtC c 4)) (n - 2) = crcZ c (n - 2) := crcF_congr _ fun k hk => hpc k (by omega)
 have hcb := crcZ_bd c (n - 2)
 have hop : byt c (n - 2) = crcZ c (n - 2) / 256 ∧ byt c (n - 1) = crcZ c (n - 2) % 256 := by
  unfold opeZ at ho
  rw [if_neg (by omega)] at ho
  split at ho
  ·assumption
  ·cases ho
 rw [hp, slc_rd (by omega), hcr]
 by_cases e1 : (i : Int) = n - 2 + 1
 ·rw [if_pos e1, show (i : Int) = n - 1 by omega]
  rw [show IntKind.wrap .u8 (rdZ c (n - 1)) = byt c (n - 1) from rfl, hop.2]
  exact w8 (by omega) (by omega)
 ·rw [if_neg e1]
  by_cases e2 : (i : Int) = n - 2
  ·rw [if_pos e2, e2, show IntKind.wrap .u8 (rdZ c (n - 2)) = byt c (n - 2) from rfl, hop.1]
   exact w8 (by omega) (by omega)
  ·rw [if_neg e2]
   exact hpc i (by omega)
end Go.Eng
end
