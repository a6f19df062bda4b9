/-
  Parts of the engine, a program's symbolic run, proved sound; and of plain laws.
-/
import Derived.Test.YteimodjkllldlaeGreatDoorGp5
set_option linter.unusedVariables false
set_option linter.unusedSimpArgs false
/-!  -/
noncomputable section
namespace Go.Eng
section
variable {w nc nr cS cI nI : Int}
open Classical in
theorem fpc_open (h : openIn cS cI nI) : fpcF w nc nr cS cI nI = -1 := by unfold fpcF; rw [if_pos h]
open Classical in
theorem fpc_found (ho : ¬ openIn cS cI nI) {p : Int} (p0 : 0 ≤ p) (p1 : p < nc) (hw : qJh w nr cS (qZe w nc nr cS) p) (hb : ∀ k, 0 ≤ k → k < p → ¬ qJh w nr cS (qZe w nc nr cS) k) : fpcF w nc nr cS cI nI = p := by
 unfold fpcF
 rw [if_neg ho]
 have h : (List.range nc.toNat).find? (fun (k : Nat) => decide (qJh w nr cS (qZe w nc nr cS) k)) = some p.toNat := by
  rw [List.find?_range_eq_some]
  refine ⟨by simp only [decide_eq_true_eq]; rw [show ((p.toNat : Nat) : Int) = p by omega]; exact hw, by rw [List.mem_range]; omega, fun j hj => ?_⟩
  simp only [Bool.not_eq_true', decide_eq_false_iff_not]
  exact hb j (by omega) (by omega)
 rw [h]
 simp only [Option.map_some, Option.getD_some]; omega
open Classical in
theorem fpc_none (ho : ¬ openIn cS cI nI) (n0 : 0 ≤ nc) (hb : ∀ k, 0 ≤ k → k < nc → ¬ qJh w nr cS (qZe w nc nr cS) k) : fpcF w nc nr cS cI nI = nc := by
 unfold fpcF
 rw [if_neg ho]
 have h : (List.range nc.toNat).find? (fun (k : Nat) => decide (qJh w nr cS (qZe w nc nr cS) k)) = none := by
  rw [List.find?_eq_none]
  intro j hj
  rw [List.mem_range] at hj
  simp only [decide_eq_true_eq]
  exact hb j (by omega) (by omega)
 rw [h]; rfl
theorem fwh_ev {z : Int} (hz : z = qQq nr (qQq cS (qQq cI (qQq nI 0)))) {f : Int} (hf : fpcF w nc nr cS cI nI = f) : fwhZ w nc z = (if f < nc then 12 else 0) ∧ fpcZ w nc z = if f < nc then f else 0 := by
 subst hz
 obtain ⟨⟨e0, e1⟩, e2, e3⟩ := fpc_ev (cS := cS) (cI := cI) (nI := nI) nr
 unfold fwhZ fpcZ
 rw [e0, e1, e2, e3, hf]
 exact ⟨rfl, rfl⟩
end
end Go.Eng
end
/-!  -/
noncomputable section
namespace Go.Eng
theorem dec_n0 {x : Int} (h : decZ x 5 = 0) (h31 : decZ x 0 ≠ 31) : 0 ≤ decZ x 4 := by
 unfold decZ at *
 simp only [if_true] at h
 have hp : decP (x % 4294967296) := Classical.byContradiction fun g => by
  rw [if_neg g] at h
  split at h <;> exact absurd h (by decide)
 simp only [hp, not_true_eq_false, if_false, if_true, show (0 : Int) = 5 ↔ False by decide, show (4 : Int) = 5 ↔ False by decide, show (4 : Int) = 0 ↔ False by decide, show (4 : Int) = 1 ↔ False by decide, show (4 : Int) = 2 ↔ False by decide, show (4 : Int) = 3 ↔ False by decide] at *
 unfold decN
 simp only
 split
 ·exact Int.le_refl _
 ·omega
theorem any_open {c n : Int} : anyZ c n 0 ≠ 0 ↔ ∃ j : Int, 0 ≤ j ∧ j < n ∧ rdZ c j = 0 := by
 unfold anyZ
 split
 ·rename_i h
  obtain ⟨j, j0, j1, k⟩ := h
  exact ⟨fun _ => ⟨j, j0, j1, Classical.byContradiction fun g => absurd rfl (k.1 g)⟩, fun _ => by decide⟩
 ·rename_i h
  exact ⟨fun k => absurd rfl k, fun ⟨j, j0, j1, k⟩ => absurd ⟨j, j0, j1, ⟨fun g => absurd k g, fun g => absurd rfl g⟩⟩ h⟩
end Go.Eng
end
/-!  -/
noncomputable section
namespace Go.Eng
section
variable {w nr cS cI nI cD : Int}
theorem quiet_runs {nc fuel M N A B : Int} {L : Lv} (n0 : 0 ≤ nc) (hc : nc ≤ 16384) (ho : FlowOk w nc nr cS L) (h : ∀ j : Int, 0 ≤ j → j < nr → rdZ cS j = 0 → IntKind.wrap .i32 (rdZ N j) = IntKind.wrap .i32 (rdZ M j))
  (hA : A = runP (decW w nc) nc (qQq nr (qQq fuel (qQq (nuP M) 0)))) (hB : B = runP (decW w nc) nc (qQq nr (qQq fuel (qQq (nuP N) 0)))) :
  rdZ B 5 = rdZ A 5 ∧ mkN B = mkN A ∧ rdZ B 3 = rdZ A 3 ∧ rdZ B 2 = rdZ A 2 ∧ (∀ j : Int, 0 ≤ j → j < nr → rdZ cS j = 0 → IntKind.wrap .i32 (rdZ (rdZ B 1) j) = IntKind.wrap .i32 (rdZ (rdZ A 1) j)) ∧ rdZ B 7 = rdZ A 7 := by
 have hd : decW w nc = decC w nc.toNat := rfl
 have hcc : ((nc.toNat : Nat) : Int) = nc := by omega
 rw [hd, runP_code] at hA hB
 rw [← hcc] at ho
 obtain ⟨q, q2⟩ := nq_runs (nc := nc.toNat) (by omega) ho (nq_nu ho h) fuel.toNat
 rw [hcc] at q q2
 obtain ⟨_, a1, a2, a3, _, a5, a6, a7⟩ := codeM_rd (Mac.runs (decC w nc.toNat) nc nr fuel.toNat (macM (nuP M))).1 ((Mac.runs (decC w nc.toNat) nc nr fuel.toNat (macM (nuP M))).2 : Int)
 obtain ⟨_, b1, b2, b3, _, b5, b6, b7⟩ := codeM_rd (Mac.runs (decC w nc.toNat) nc nr fuel.toNat (macM (nuP N))).1 ((Mac.runs (decC w nc.toNat) nc nr fuel.toNat (macM (nuP N))).2 : Int)
 rw [← hA] at a1 a2 a3 a5 a6 a7
 rw [← hB] at b1 b2 b3 b5 b6 b7
 refine ⟨b5.trans (q.ne.mq.trans a5.symm), ?_, b3.trans (q.ne.st.trans a3.symm), b2.trans (q.ne.pc.trans a2.symm), fun j j0 j1 hj => by rw [b1, a1]; exact q.ne.rm j j0 j1 hj, ?_⟩
 ·unfold mkN; rw [b6, a6, q.ne.nm]
 ·rw [b7, a7, q2]
end
end Go.Eng
end
/-!  -/
noncomputable section
namespace Go.Eng
theorem band_one {s d : Int} (d0 : 0 ≤ d) (d1 : d < 32) : band .u32 s (shlZ .u32 1 d) = 0 ↔ ¬ bitP s d := and_one d0 d1
theorem orW_zero {x y : Int} (hx : IntKind.wrap .u32 x = x) (hy : IntKind.wrap .u32 y = y) : orW x y = 0 ↔ x = 0 ∧ y = 0 := by
 constructor
 ·intro h
  have hb : ∀ r, ¬ bitP x r ∧ ¬ bitP y r := fun r => by
   have := bit_or x y r
   rw [h] at this
   exact ⟨fun g => qKy r (this.2 (.inl g)), fun g => qKy r (this.2 (.inr g))⟩
  have z : IntKind.wrap .u32 0 = 0 := by decide
  have e1 := bits_ext (a := x) (b := 0) fun r _ _ => ⟨fun g => absurd g (hb r).1, fun g => absurd g (qKy r)⟩
  have e2 := bits_ext (a := y) (b := 0) fun r _ _ => ⟨fun g => absurd g (hb r).2, fun g => absurd g (qKy r)⟩
  exact ⟨by rw [← hx, e1, z], by rw [← hy, e2, z]⟩
 ·rintro ⟨rfl, rfl⟩; decide
theorem band_wrap (x y : Int) : IntKind.wrap .u32 (band .u32 x y) = band .u32 x y := by unfold band; exact wrap_wrap .u32 .u32 _ (by decide)
theorem bor_two {s a b : Int} (a0 : 0 ≤ a) (a1 : a < 32) (b0 : 0 ≤ b) (b1 : b < 32) : bor .u32 (band .u32 s (shlZ .u32 1 a)) (band .u32 s (shlZ .u32 1 b)) = 0 ↔ ¬ bitP s a ∧ ¬ bitP s b := by
 have h : bor .u32 (band .u32 s (shlZ .u32 1 a)) (band .u32 s (shlZ .u32 1 b)) = orW (band .u32 s (shlZ .u32 1 a)) (band .u32 s (shlZ .u32 1 b)) := rfl
 rw [h, orW_zero (band_wrap _ _) (band_wrap _ _), band_one a0 a1, band_one b0 b1]
theorem fse_zero {op a b n s nS cS m : Int} : fseZ op a (qQq b (qQq n (qQq s (qQq nS (qQq cS (qQq m 0)))))) = 0 ↔ ¬ ((op ≤ 23 ∧ bitP s b) ∨ (op ≤ 32 ∧ bitP s a) ∨ (op = 34 ∧ a = 0 ∧ rdZ cS n ≠ 0) ∨ (op = 34 ∧ a ≠ 0 ∧ m ≠ 0)) := by
 obtain ⟨⟨e0, e1, e2⟩, e3, e4, e5⟩ := ch6 b n s nS cS m
 unfold fseZ
 rw [e0, e1, e2, e4, e5]
 split
 ·rename_i h; exact ⟨fun k => absurd k (by decide), fun k => absurd h k⟩
 ·rename_i h; exact ⟨fun _ => h, fun _ => rfl⟩
theorem lrc_ev (nc pc s v : Int) : lrcZ nc pc (qQq s (qQq v 0)) = if pc < nc ∧ ¬ (IntKind.wrap .u32 (rdZ (rdZ v pc) 0) = 1 ∧ IntKind.wrap .u32 (rdZ (rdZ v pc) 1) = orW (IntKind.wrap .u32 (rdZ (rdZ v pc) 1)) s) then 1 else 0 := by
 unfold lrcZ
 rw [(qKc s v).1, (qKc s v).2]
theorem lrc_at {nc pc s v : Int} (h : pc < nc) : (if 1 = IntKind.wrap .u32 (rdZ (rdZ v pc) 0) then if bor .u32 (IntKind.wrap .u32 (rdZ (rdZ v pc) 1)) s = IntKind.wrap .u32 (rdZ (rdZ v pc) 1) then (1 : Int) else 0 else 0) = 0 ↔ lrcZ nc pc (qQq s (qQq v 0)) ≠ 0 := by
 rw [lrc_ev]
 have e : bor .u32 (IntKind.wrap .u32 (rdZ (rdZ v pc) 1)) s = orW (IntKind.wrap .u32 (rdZ (rdZ v pc) 1)) s := rfl
 rw [e]
 by_cases g1 : IntKind.wrap .u32 (rdZ (rdZ v pc) 0) = 1
 ·by_cases g2 : IntKind.wrap .u32 (rdZ (rdZ v pc) 1) = orW (IntKind.wrap .u32 (rdZ (rdZ v pc) 1)) s
  ·rw [if_pos g1.symm, if_pos g2.symm, if_neg (fun k => k.2 ⟨g1, g2⟩)]; simp
  ·rw [if_pos g1.symm, if_neg (fun k => g2 k.symm), if_pos ⟨h, fun k => g2 k.2⟩]; simp
 ·rw [if_neg (fun k => g1 k.symm), if_pos ⟨h, fun k => g1 k.1⟩]; simp
theorem num_of (p : Prop) : ∃ x : Int, p ↔ x ≠ 0 := by
 by_cases h : p
 ·exact ⟨1, fun _ => by decide, fun _ => h⟩
 ·exact ⟨0, fun k => absurd k h, fun k => absurd rfl k⟩
end Go.Eng
end
/-!  -/
noncomputable section
namespace Go.Eng
theorem dec_ok5 {x : Int} : decZ x 0 ≠ 0 ↔ decZ x 5 = 0 := by
 unfold decZ
 simp only [show (5 : Int) = 5 ↔ True by simp, show (0 : Int) = 5 ↔ False by decide, if_true, if_false]
 by_cases h : decP (x % 4294967296)
 ·simp only [h, not_true_eq_false, if_false, if_true, show (0 : Int) = 0 ↔ True by simp]
  refine ⟨fun _ => trivial, fun _ => ?_⟩
  have := h
  unfold decP at this
  omega
 ·simp only [h, not_false_eq_true, if_true, if_false]
  refine ⟨fun k => absurd rfl k, fun k => ?_⟩
  split at k <;> exact absurd k (by decide)
theorem lps_ev {op d a b n pc nc nr cS m s V W k R : Int} (h : R = lpsZ op d (qQq a (qQq b (qQq n (qQq pc (qQq nc (qQq nr (qQq cS (qQq m (qQq s (qQq V (qQq W (qQq k 0))))))))))))) :
  rdZ R 0 = (lpsT op d a b n pc nc nr cS m s (V, W, k)).1 ∧ rdZ R 1 = (lpsT op d a b n pc nc nr cS m s (V, W, k)).2.1 ∧ rdZ R 2 = (lpsT op d a b n pc nc nr cS m s (V, W, k)).2.2 := by
 subst h
 have h := qXt [a, b, n, pc, nc, nr, cS, m, s, V, W, k]
 have h0 : rdZ (qQq a (qQq b (qQq n (qQq pc (qQq nc (qQq nr (qQq cS (qQq m (qQq s (qQq V (qQq W (qQq k 0)))))))))))) 0 = a := h 0
 have h1 : rdZ (qQq a (qQq b (qQq n (qQq pc (qQq nc (qQq nr (qQq cS (qQq m (qQq s (qQq V (qQq W (qQq k 0)))))))))))) 1 = b := h 1
 have h2 : rdZ (qQq a (qQq b (qQq n (qQq pc (qQq nc (qQq nr (qQq cS (qQq m (qQq s (qQq V (qQq W (qQq k 0)))))))))))) 2 = n := h 2
 have h3 : rdZ (qQq a (qQq b (qQq n (qQq pc (qQq nc (qQq nr (qQq cS (qQq m (qQq s (qQq V (qQq W (qQq k 0)))))))))))) 3 = pc := h 3
 have h4 : rdZ (qQq a (qQq b (qQq n (qQq pc (qQq nc (qQq nr (qQq cS (qQq m (qQq s (qQq V (qQq W (qQq k 0)))))))))))) 4 = nc := h 4
 have h5 : rdZ (qQq a (qQq b (qQq n (qQq pc (qQq nc (qQq nr (qQq cS (qQq m (qQq s (qQq V (qQq W (qQq k 0)))))))))))) 5 = nr := h 5
 have h6 : rdZ (qQq a (qQq b (qQq n (qQq pc (qQq nc (qQq nr (qQq cS (qQq m (qQq s (qQq V (qQq W (qQq k 0)))))))))))) 6 = cS := h 6
 have h7 : rdZ (qQq a (qQq b (qQq n (qQq pc (qQq nc (qQq nr (qQq cS (qQq m (qQq s (qQq V (qQq W (qQq k 0)))))))))))) 7 = m := h 7
 have h8 : rdZ (qQq a (qQq b (qQq n (qQq pc (qQq nc (qQq nr (qQq cS (qQq m (qQq s (qQq V (qQq W (qQq k 0)))))))))))) 8 = s := h 8
 have h9 : rdZ (qQq a (qQq b (qQq n (qQq pc (qQq nc (qQq nr (qQq cS (qQq m (qQq s (qQq V (qQq W (qQq k 0)))))))))))) 9 = V := h 9
 have h10 : rdZ (qQq a (qQq b (qQq n (qQq pc (qQq nc (qQq nr (qQq cS (qQq m (qQq s (qQq V (qQq W (qQq k 0)))))))))))) 10 = W := h 10
 have h11 : rdZ (qQq a (qQq b (qQq n (qQq pc (qQq nc (qQq nr (qQq cS (qQq m (qQq s (qQq V (qQq W (qQq k 0)))))))))))) 11 = k := h 11
 unfold lpsZ
 rw [h0, h1, h2, h3, h4, h5, h6, h7, h8, h9, h10, h11]
 generalize lpsT op d a b n pc nc nr cS m s (V, W, k) = T
 obtain ⟨x, y, z⟩ := T
 have g := qXt [x, y, z]
 exact ⟨g 0, g 1, g 2⟩
theorem rch_ev (nc t s V W k : Int) : rchT nc t s (V, W, k) = (if ¬ lrcZ nc t (qQq s (qQq V 0)) = 0 then lrvZ V t s else V, if ¬ lrcZ nc t (qQq s (qQq V 0)) = 0 then hupZ (updZ W k t) k else W, k + lrcZ nc t (qQq s (qQq V 0))) := by
 have hb := lrcZ_bd nc t (qQq s (qQq V 0))
 unfold rchT
 by_cases h : lrcZ nc t (qQq s (qQq V 0)) = 0
 ·rw [if_neg (fun g => g h), if_neg (fun g => g h), if_neg (fun g => g h), h, Int.add_zero]
 ·rw [if_pos h, if_pos h, if_pos h, show lrcZ nc t (qQq s (qQq V 0)) = 1 by omega]
end Go.Eng
end
/-!  -/
noncomputable section
namespace Go.Eng
theorem any_some {c n : Int} : anyZ c n 1 ≠ 0 ↔ ∃ j : Int, 0 ≤ j ∧ j < n ∧ rdZ c j ≠ 0 := by
 unfold anyZ
 split
 ·rename_i h
  obtain ⟨j, j0, j1, k⟩ := h
  exact ⟨fun _ => ⟨j, j0, j1, k.2 (by decide)⟩, fun _ => by decide⟩
 ·rename_i h
  exact ⟨fun k => absurd rfl k, fun ⟨j, j0, j1, k⟩ => absurd ⟨j, j0, j1, ⟨fun _ => by decide, fun _ => k⟩⟩ h⟩
theorem lsb_ok {op d a b n nr cS m s : Int} (o1 : 1 ≤ op) (d0 : 0 ≤ d) (d1 : d < 32) (he : ¬ qXm nr op a n) (hm : m = anyZ cS nr 1) (r : Int) (r0 : 0 ≤ r) (r1 : r < 32) :
  bitP (lsbZ op d a b n nr cS m s) r ↔ behS nr cS op d a b n (fun r => bitP s r) r := by
 have hp : putsP op ↔ (op ≤ 34 ∨ op = 40) := Iff.rfl
 unfold lsbZ behS
 by_cases h : op ≤ 34 ∨ op = 40
 ·rw [if_pos h]
  have hd : fseZ op a (qQq b (qQq n (qQq s (qQq nr (qQq cS (qQq m 0)))))) ≠ 0 ↔ dsec nr cS op a b n (fun r => bitP s r) := by
   have hf := fse_zero (op := op) (a := a) (b := b) (n := n) (s := s) (nS := nr) (cS := cS) (m := m)
   rw [ne_eq, hf, Classical.not_not, hm, any_some]
   unfold dsec
   unfold qXm at he
   obtain ⟨A, hA⟩ := num_of (bitP s a)
   obtain ⟨B, hB⟩ := num_of (bitP s b)
   obtain ⟨Y, hY⟩ := num_of (∃ j : Int, 0 ≤ j ∧ j < nr ∧ rdZ cS j ≠ 0)
   simp only [hA, hB, hY]
   generalize rdZ cS n = N
   clear hA hB hY hf hm hp
   constructor
   ·rintro (g | g | g | g)
    ·exact .inl ⟨by omega, .inr g⟩
    ·by_cases k : op ≤ 30
     ·exact .inl ⟨k, .inl g.2⟩
     ·by_cases k2 : op = 31 ∨ op = 32
      ·exact .inr (.inl ⟨k2, g.2⟩)
      ·omega
    ·exact .inr (.inr (.inl ⟨g.1, g.2.1, by omega, g.2.2⟩))
    ·exact .inr (.inr (.inr g))
   ·rintro (⟨g, k | k⟩ | g | g | g)
    ·exact .inr (.inl ⟨by omega, k⟩)
    ·exact .inl k
    ·exact .inr (.inl ⟨by omega, g.2⟩)
    ·exact .inr (.inr (.inl ⟨g.1, g.2.1, g.2.2.2⟩))
    ·exact .inr (.inr (.inr g))
  have b1 := bit_not (s := s) d0 d1 r r0 r1
  have b2 := bit_one0 d0 d1 r r0 r1
  by_cases g : fseZ op a (qQq b (qQq n (qQq s (qQq nr (qQq cS (qQq m 0)))))) ≠ 0
  ·rw [if_pos g, bit_or, b1, b2]
   have gd := hd.1 g
   unfold putQ
   constructor
   ·rintro (⟨k1, k2⟩ | ⟨k1, k2⟩)
    ·exact .inl ⟨h, .inr ⟨k2, k1⟩⟩
    ·exact .inl ⟨h, .inl ⟨k1, gd, k2⟩⟩
   ·rintro (⟨_, ⟨k1, _, k2⟩ | ⟨k1, k2⟩⟩ | ⟨k, _⟩)
    ·exact .inr ⟨k1, k2⟩
    ·exact .inl ⟨k2, k1⟩
    ·exact absurd h k
  ·rw [if_neg g, b1]
   have gd := fun k => g (hd.2 k)
   unfold putQ
   constructor
   ·rintro ⟨k1, k2⟩; exact .inl ⟨h, .inr ⟨k2, k1⟩⟩
   ·rintro (⟨_, ⟨_, k1, _⟩ | ⟨k1, k2⟩⟩ | ⟨k, _⟩)
    ·exact absurd k1 gd
    ·exact ⟨k2, k1⟩
    ·exact absurd h k
 ·rw [if_neg h]
  constructor
  ·intro k; exact .inr ⟨h, k⟩
  ·rintro (⟨k, _⟩ | ⟨_, k⟩)
   ·exact absurd k h
   ·exact k
section
variable {w nc nr cS p V0 V W n s : Int} {m : Nat}
theorem rch_ok (h : Ps w nc nr cS p V0 m V W n) (hc : nc ≤ 16384) (p0 : 0 ≤ p) (p1 : p < nc) (b0 : Below w nc nr cS (qv V0 nc)) (hr : bT (qv V0 nc) p 0) (h5 : decZ (IntKind.wrap .u32 (rdZ w p)) 5 = 0)
  (hY : ∀ r, 0 ≤ r → r < 32 → bitP s r → behAt w nr cS p (fun r => bT (qv V0 nc) p (1 + r)) r) {t : Int} (t0 : 0 ≤ t) (hn : nxtAt w nr p t) :
  Ps w nc nr cS p V0 m (rchT nc t s (V, W, n)).1 (rchT nc t s (V, W, n)).2.1 (rchT nc t s (V, W, n)).2.2 ∧ Dn nc s (rchT nc t s (V, W, n)).1 t ∧ ∀ x, 0 ≤ x → Dn nc s V x → Dn nc s (rchT nc t s (V, W, n)).1 x := by
 obtain ⟨g1, g2⟩ := ps_reach h hc p0 p1 b0 hr h5 hY (z := qQq s (qQq V 0)) (qKc s V).1 (qKc s V).2 t0 hn
 unfold rchT
 by_cases hl : lrcZ nc t (qQq s (qQq V 0)) ≠ 0
 ·rw [if_pos hl]; exact g2 hl
 ·rw [if_neg hl]; exact ⟨h, g1 (Classical.byContradiction hl), fun x _ hx => hx⟩
theorem pass_ok (hW : Wk w nc nr cS V W n (fun x => x = p)) (hc : nc ≤ 16384) (p0 : 0 ≤ p) (p1 : p < nc) (hr : bT (qv V nc) p 0) {op d a b nn M : Int} (e0 : op = decZ (IntKind.wrap .u32 (rdZ w p)) 0) (e1 : d = decZ (IntKind.wrap .u32 (rdZ w p)) 1) (e2 : a = decZ (IntKind.wrap .u32 (rdZ w p)) 2)
  (e3 : b = decZ (IntKind.wrap .u32 (rdZ w p)) 3) (e4 : nn = decZ (IntKind.wrap .u32 (rdZ w p)) 4) (hM : M = anyZ cS nr 1) (hs : s = IntKind.wrap .u32 (rdZ (rdZ V p) 1)) {T : Int × Int × Int} (hT : T = lpsT op d a b nn p nc nr cS M s (V, W, n)) :
  Wk w nc nr cS T.1 T.2.1 T.2.2 (fun _ => False) ∧ mWk T.1 nc T.2.2 ≤ mWk V nc n := by
 have st := ps_start hW
 have done : ∀ {S V' W' n' : Int}, Ps w nc nr cS p V (mWk V nc n) V' W' n' → (decZ (IntKind.wrap .u32 (rdZ w p)) 5 = 0 → (∀ r, 0 ≤ r → r < 32 → behAt w nr cS p (fun r => bT (qv V nc) p (1 + r)) r → bitP S r) ∧ ∀ t, nxtAt w nr p t → 0 ≤ t → Dn nc S V' t) →
   Wk w nc nr cS V' W' n' (fun _ => False) ∧ mWk V' nc n' ≤ mWk V nc n := fun h hd => ⟨ps_end h p0 hd, h.ms⟩
 by_cases h5 : decZ (IntKind.wrap .u32 (rdZ w p)) 5 = 0
 case neg =>
  have o : op = 0 := Classical.byContradiction fun g => h5 (dec_ok5.1 (by rw [← e0]; exact g))
  have hT : T = (V, W, n) := by rw [hT]; unfold lpsT; rw [if_pos (.inl o)]
  rw [hT]
  exact done (S := 0) st fun g => absurd g h5
 obtain ⟨⟨o0, o1⟩, ⟨d0, d1⟩, ⟨a0, a1⟩, ⟨b0, b1⟩, ⟨n0, n1⟩⟩ := dec_in (rdZ w p) h5
 have hn0 := dec_n0 h5
 rw [← e0, ← e4] at hn0
 rw [← e0] at o0 o1
 rw [← e1] at d0 d1
 rw [← e2] at a0 a1
 rw [← e3] at b0 b1
 have bA : ∀ S r, behAt w nr cS p S r ↔ behS nr cS op d a b nn S r := fun S r => by unfold behAt; rw [e0, e1, e2, e3, e4]
 have nA : ∀ t, nxtAt w nr p t ↔ nxtP nr op a nn p t := fun t => by unfold nxtAt; rw [e0, e2, e4]
 have hV : ∀ r, 0 ≤ r → r < 32 → (bT (qv V nc) p (1 + r) ↔ bitP s r) := fun r r0 r1 => by rw [hs, qKv]; exact qv_se p0 p1 r0 r1
 by_cases he : qXm nr op a nn
 ·have hT : T = (V, W, n) := by rw [hT]; unfold lpsT; rw [if_pos (.inr he)]
  rw [hT]
  refine done (S := -1) st fun _ => ⟨fun r r0 r1 _ => ?_, fun t ht => absurd he ((nA t).1 ht).1⟩
  unfold bitP
  have : BitVec.ofInt 32 (-1) = BitVec.allOnes 32 := by decide
  rw [this, BitVec.getLsbD_allOnes]; simp; omega
 have hS : ∀ r, 0 ≤ r → r < 32 → (bitP (lsbZ op d a b nn nr cS M s) r ↔ behAt w nr cS p (fun r => bT (qv V nc) p (1 + r)) r) := fun r r0 r1 => by
  rw [lsb_ok o0 d0 d1 he hM r r0 r1, bA]
  exact ⟨behS_32 a0 a1 b0 b1 (fun q q0 q1 k => (hV q q0 q1).2 k) r0 r1, behS_32 a0 a1 b0 b1 (fun q q0 q1 k => (hV q q0 q1).1 k) r0 r1⟩
 have ne : ¬ (op = 0 ∨ qXm nr op a nn) := fun g => g.elim (fun k => by omega) he
 have rc := fun {V' W' n' : Int} (h : Ps w nc nr cS p V (mWk V nc n) V' W' n') {t : Int} (t0 : 0 ≤ t) (hn : nxtAt w nr p t) => rch_ok (s := lsbZ op d a b nn nr cS M s) h hc p0 p1 hW.be hr h5 (fun r r0 r1 k => (hS r r0 r1).1 k) t0 hn
 by_cases hj : op = 39 ∨ op = 40
 ·have hT : T = rchT nc nn (lsbZ op d a b nn nr cS M s) (V, W, n) := by rw [hT]; unfold lpsT; rw [if_neg ne, if_pos hj]
  have hx : nxtAt w nr p nn := (nA nn).2 ⟨he, .inr (.inl ⟨hj, rfl⟩)⟩
  obtain ⟨g1, g2, _⟩ := rc st (hn0 (by omega)) hx
  rw [hT]
  refine done g1 fun _ => ⟨fun r r0 r1 k => (hS r r0 r1).2 k, fun t ht t0 => ?_⟩
  rcases ((nA t).1 ht).2 with ⟨k, _⟩ | ⟨_, k⟩ | ⟨k, _⟩
  ·omega
  ·rw [k]; exact g2
  ·omega
 by_cases hb : op = 36 ∨ op = 37 ∨ op = 38
 ·have hT : T = rchT nc (p + 1) (lsbZ op d a b nn nr cS M s) (rchT nc nn (lsbZ op d a b nn nr cS M s) (V, W, n)) := by rw [hT]; unfold lpsT; rw [if_neg ne, if_neg hj, if_pos hb]
  have hx : nxtAt w nr p nn := (nA nn).2 ⟨he, .inl ⟨hb, .inl rfl⟩⟩
  have hy : nxtAt w nr p (p + 1) := (nA (p + 1)).2 ⟨he, .inl ⟨hb, .inr rfl⟩⟩
  obtain ⟨g1, g2, _⟩ := rc st (hn0 (by omega)) hx
  obtain ⟨k1, k2, k3⟩ := rc g1 (t := p + 1) (by omega) hy
  rw [hT]
  refine done k1 fun _ => ⟨fun r r0 r1 k => (hS r r0 r1).2 k, fun t ht t0 => ?_⟩
  rcases ((nA t).1 ht).2 with ⟨_, k | k⟩ | ⟨k, _⟩ | ⟨k, _⟩
  ·rw [k]; exact k3 nn (hn0 (by omega)) g2
  ·rw [k]; exact k2
  ·omega
  ·omega
 have hT : T = rchT nc (p + 1) (lsbZ op d a b nn nr cS M s) (V, W, n) := by rw [hT]; unfold lpsT; rw [if_neg ne, if_neg hj, if_neg hb]
 have hx : nxtAt w nr p (p + 1) := (nA (p + 1)).2 ⟨he, .inr (.inr ⟨by omega, rfl⟩)⟩
 obtain ⟨g1, g2, _⟩ := rc st (t := p + 1) (by omega) hx
 rw [hT]
 refine done g1 fun _ => ⟨fun r r0 r1 k => (hS r r0 r1).2 k, fun t ht t0 => ?_⟩
 rcases ((nA t).1 ht).2 with ⟨k, _⟩ | ⟨k, _⟩ | ⟨_, k⟩
 ·omega
 ·omega
 ·rw [k]; exact g2
theorem wk_init (hp : 0 < nc) : Wk w nc nr cS (updZ 0 0 (qQq 1 (qQq 0 0))) (qQq 0 0) 1 (fun _ => False) := by
 have eV : updZ 0 0 (qQq 1 (qQq 0 0)) = lrvZ 0 0 0 := by
  unfold lrvZ
  rw [qZn, qZn]; rfl
 have hu := lrv_up (V := 0) (s := 0) (nc := nc) (by decide) hp
 have z0 : ∀ q f, 0 ≤ q → 0 ≤ f → f < 33 → ¬ bT (qv 0 nc) q f := fun q f q0 f0 f1 => by
  by_cases h : q < nc
  ·by_cases e : f = 0
   ·subst e; rw [qv_re q0 h, qZn, qZn]; decide
   ·obtain ⟨r, rfl⟩ : ∃ r, f = 1 + r := ⟨f - 1, by omega⟩
    rw [qv_se q0 h (by omega) (by omega), qZn, qZn]; exact qKy r
  ·rw [qv_out (by omega) q0, qZn, qZn]; decide
 rw [eV]
 have hse : ∀ q r, 0 ≤ q → 0 ≤ r → r < 32 → ¬ bT (qv (lrvZ 0 0 0) nc) q (1 + r) := fun q r q0 r0 r1 h => by
  by_cases e : q = 0
  ·subst e
   rcases (hu.se r r0 r1).1 h with k | k
   ·exact z0 0 (1 + r) (by decide) (by omega) (by omega) k
   ·exact qKy r k
  ·exact z0 q (1 + r) q0 (by omega) (by omega) ((hu.oth q (1 + r) q0 e (by omega) (by omega)).1 h)
 have hre : ∀ q, 0 ≤ q → bT (qv (lrvZ 0 0 0) nc) q 0 → q = 0 := fun q q0 h => Classical.byContradiction fun e => z0 q 0 q0 (by decide) (by decide) ((hu.oth q 0 q0 e (by decide) (by decide)).1 h)
 have hin : ∀ v, inP (qQq 0 0) 1 v ↔ v = 0 := fun v => by
  constructor
  ·rintro ⟨k, k0, k1, rfl⟩
   rw [show k = 0 by omega, qQv]; decide
  ·rintro rfl
   exact ⟨0, by decide, by decide, by rw [qQv]; decide⟩
 refine ⟨fun q q0 q1 => ?_, ⟨fun q q0 q1 h => ?_, fun q r q0 q1 r0 r1 h => absurd h (hse q r q0 r0 r1)⟩, fun _ => hu.re, by decide, ?_, fun v hv => ?_, fun q q0 q1 hr hn _ => ?_⟩
 ·rw [lrv_rd (by decide) q0]
  by_cases e : q = 0
  ·rw [if_pos e, (qKc _ _).1]; exact .inr (by decide)
  ·rw [if_neg e, qZn, qZn]; exact .inl (by decide)
 ·rw [hre q q0 h]; exact qJm.start hp
 ·have := up_more hu (n := nc.toNat) (by decide) (by omega) ⟨0, by decide, by decide, fun k => z0 0 0 (by decide) (by decide) (by decide) (k.1 hu.re)⟩
  omega
 ·rw [(hin v).1 hv]; exact ⟨by decide, hp, hu.re⟩
 ·exact absurd ((hin q).2 (hre q q0 hr)) hn
end
end Go.Eng
end
/-!  -/
noncomputable section
namespace Go.Eng
theorem dec_all (x : Int) : (0 ≤ decZ (IntKind.wrap .u32 x) 0 ∧ decZ (IntKind.wrap .u32 x) 0 ≤ 43) ∧ (0 ≤ decZ (IntKind.wrap .u32 x) 1 ∧ decZ (IntKind.wrap .u32 x) 1 ≤ 31) ∧ (0 ≤ decZ (IntKind.wrap .u32 x) 2 ∧ decZ (IntKind.wrap .u32 x) 2 ≤ 31) ∧
  (0 ≤ decZ (IntKind.wrap .u32 x) 3 ∧ decZ (IntKind.wrap .u32 x) 3 ≤ 31) ∧ (-32768 ≤ decZ (IntKind.wrap .u32 x) 4 ∧ decZ (IntKind.wrap .u32 x) 4 ≤ 65535) ∧ (decZ (IntKind.wrap .u32 x) 0 = 31 ∨ 0 ≤ decZ (IntKind.wrap .u32 x) 4) := by
 by_cases h5 : decZ (IntKind.wrap .u32 x) 5 = 0
 ·obtain ⟨⟨o0, o1⟩, ⟨d0, d1⟩, ⟨a0, a1⟩, ⟨b0, b1⟩, n0, n1⟩ := dec_in x h5
  refine ⟨⟨by omega, o1⟩, ⟨d0, by omega⟩, ⟨a0, by omega⟩, ⟨b0, by omega⟩, ⟨n0, n1⟩, ?_⟩
  by_cases e : decZ (IntKind.wrap .u32 x) 0 = 31
  ·exact .inl e
  ·exact .inr (dec_n0 h5 e)
 ·have hn : ¬ decP (IntKind.wrap .u32 x % 4294967296) := fun hp => h5 (by unfold decZ; simp only [if_true]; rw [if_pos hp])
  have z : ∀ k, k ≠ 5 → decZ (IntKind.wrap .u32 x) k = 0 := fun k hk => by
   unfold decZ
   simp only [if_neg hk]
   rw [if_pos hn]
  rw [z 0 (by decide), z 1 (by decide), z 2 (by decide), z 3 (by decide), z 4 (by decide)]
  omega
theorem dec_w64 (x k : Int) : IntKind.wrap .i64 (decZ x k) = decZ x k := by
 have := decZ_bd x k
 exact w64 (by omega) (by omega)
theorem ch5 (a b c d e : Int) {k : Int} (k0 : 0 ≤ k) (k1 : k < 5) : rdZ (qQq a (qQq b (qQq c (qQq d (qQq e 0))))) k = if k = 0 then a else if k = 1 then b else if k = 2 then c else if k = 3 then d else e := by
 have h := qXt [a, b, c, d, e]
 have h0 : rdZ (qQq a (qQq b (qQq c (qQq d (qQq e 0))))) 0 = a := h 0
 have h1 : rdZ (qQq a (qQq b (qQq c (qQq d (qQq e 0))))) 1 = b := h 1
 have h2 : rdZ (qQq a (qQq b (qQq c (qQq d (qQq e 0))))) 2 = c := h 2
 have h3 : rdZ (qQq a (qQq b (qQq c (qQq d (qQq e 0))))) 3 = d := h 3
 have h4 : rdZ (qQq a (qQq b (qQq c (qQq d (qQq e 0))))) 4 = e := h 4
 rcases (by omega : k = 0 ∨ k = 1 ∨ k = 2 ∨ k = 3 ∨ k = 4) with rfl | rfl | rfl | rfl | rfl
 ·rw [if_pos rfl]; exact h0
 ·rw [if_neg (by decide), if_pos rfl]; exact h1
 ·rw [if_neg (by decide), if_neg (by decide), if_pos rfl]; exact h2
 ·rw [if_neg (by decide), if_neg (by decide), if_neg (by decide), if_pos rfl]; exact h3
 ·rw [if_neg (by decide), if_neg (by decide), if_neg (by decide), if_neg (by decide)]; exact h4
def InsOk (w q n : Int) : Prop := ∀ j : Int, 0 ≤ j → j < n → ∀ k : Int, 0 ≤ k → k < 5 → rdZ (rdZ q j) k = decZ (IntKind.wrap .u32 (rdZ w j)) k
theorem ins_snoc {w q n : Int} (h : InsOk w q n) (n0 : 0 ≤ n) : InsOk w (updZ q n (qQq (decZ (IntKind.wrap .u32 (rdZ w n)) 0) (qQq (decZ (IntKind.wrap .u32 (rdZ w n)) 1) (qQq (decZ (IntKind.wrap .u32 (rdZ w n)) 2) (qQq (decZ (IntKind.wrap .u32 (rdZ w n)) 3) (qQq (decZ (IntKind.wrap .u32 (rdZ w n)) 4) 0)))))) (n + 1) := by
 intro j j0 j1 k k0 k1
 rw [qQi]
 by_cases e : j = n
 ·subst e
  rw [if_pos rfl, ch5 _ _ _ _ _ k0 k1]
  rcases (by omega : k = 0 ∨ k = 1 ∨ k = 2 ∨ k = 3 ∨ k = 4) with rfl | rfl | rfl | rfl | rfl <;> rfl
 ·rw [if_neg (by omega)]; exact h j j0 (by omega) k k0 k1
theorem row_u {R Q n : Int} (h : ∀ k : Int, 0 ≤ k → k < n → IntKind.wrap .u32 (rdZ R k) = IntKind.wrap .u32 (rdZ Q k)) : qQc [.int .u32] R Q n := by
 intro i hi
 show [Value.int .u32 (IntKind.wrap .u32 (rdZ R i))] = [Value.int .u32 (IntKind.wrap .u32 (rdZ Q i))]
 rw [h i (by omega) hi]
end Go.Eng
end
/-!  -/
noncomputable section
namespace Go.Eng
end Go.Eng
end
/-!  -/
noncomputable section
namespace Go.Eng
end Go.Eng
end
/-!  -/
noncomputable section
namespace Go.Eng
section
variable {w nr cS : Int} {nc : Nat} {L : Lv}
end
end Go.Eng
end
