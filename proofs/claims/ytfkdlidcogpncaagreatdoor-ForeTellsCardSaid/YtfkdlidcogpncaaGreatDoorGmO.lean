/-
  Parts of the engine, a program's symbolic run, proved sound; and of plain laws.
-/
import Derived.Test.YtfkdlidcogpncaaGreatDoorGmM
set_option linter.unusedVariables false
set_option linter.unusedSimpArgs false

/-!  -/
noncomputable section
namespace Go.Eng
section
variable {w nc nr rx rk rm hv pc st mq nm A B C D p s Q N t op d a b n : Int}
theorem rfs_rd {m : Rm} (h : Rm.on1 w nc nr ⟨rx, rk, rm, hv, pc, st, mq, nm⟩ = (m, t)) :
  let Z := rfsZ w nc (qQq nr (qQq rx (qQq rk (qQq rm (qQq hv (qQq pc (qQq st (qQq mq (qQq nm 0)))))))))
  rdZ Z 0 = m.rx ∧ rdZ Z 1 = m.rk ∧ rdZ Z 2 = m.rm ∧ rdZ Z 3 = m.hv ∧ rdZ Z 4 = m.pc ∧ rdZ Z 5 = m.st ∧ rdZ Z 6 = m.mq ∧ rdZ Z 7 = m.nm ∧ rdZ Z 8 = t := by
 intro Z
 have hZ : Z = LZ [m.rx, m.rk, m.rm, m.hv, m.pc, m.st, m.mq, m.nm, t] := by
  have g := qJz [nr, rx, rk, rm, hv, pc, st, mq, nm]
  show rfsZ w nc _ = _
  unfold rfsZ
  generalize hz : (qQq nr (qQq rx (qQq rk (qQq rm (qQq hv (qQq pc (qQq st (qQq mq (qQq nm 0))))))))) = z
  have hc : chn [nr, rx, rk, rm, hv, pc, st, mq, nm] = z := by rw [← hz]; rfl
  rw [hc] at g
  have e0 : rdZ z 0 = nr := g 0
  have e1 : rdZ z 1 = rx := g 1
  have e2 : rdZ z 2 = rk := g 2
  have e3 : rdZ z 3 = rm := g 3
  have e4 : rdZ z 4 = hv := g 4
  have e5 : rdZ z 5 = pc := g 5
  have e6 : rdZ z 6 = st := g 6
  have e7 : rdZ z 7 = mq := g 7
  have e8 : rdZ z 8 = nm := g 8
  rw [e0, e1, e2, e3, e4, e5, e6, e7, e8, h]
 rw [hZ]
 simp only [rdZ_LZ]
 exact ⟨rfl, rfl, rfl, rfl, rfl, rfl, rfl, rfl, rfl⟩
theorem rfs_leaf (h : Rm.on1 w nc nr ⟨rx, rk, rm, hv, pc, st, mq, nm⟩ = (⟨A, B, C, D, p, s, Q, N⟩, t)) (hp : I64 p) (hs : I64 s) (hN : I64 N) :
  let Z := rfsZ w nc (qQq nr (qQq rx (qQq rk (qQq rm (qQq hv (qQq pc (qQq st (qQq mq (qQq nm 0)))))))))
  qQw [.int .i32] A (rdZ Z 0) 32 ∧ qQw [.bool] B (rdZ Z 1) 32 ∧ qQw [.int .i32] C (rdZ Z 2) nr ∧ qQw [.bool] D (rdZ Z 3) nr ∧ p = IntKind.wrap .i64 (rdZ Z 4) ∧ s = IntKind.wrap .i64 (rdZ Z 5) ∧ N = IntKind.wrap .i64 (rdZ Z 7) ∧ qQw [.int .i64, .int .i64, .int .i64] Q (rdZ Z 6) (IntKind.wrap .i64 (rdZ Z 7)) ∧ rdZ Z 8 = t := by
 intro Z
 obtain ⟨r0, r1, r2, r3, r4, r5, r6, r7, r8⟩ := rfs_rd h
 show qQw _ A (rdZ Z 0) 32 ∧ _
 rw [r0, r1, r2, r3, r4, r5, r6, r7, r8]
 exact ⟨qQx _ _ _, qQx _ _ _, qQx _ _ _, qQx _ _ _, (w64 hp.1 hp.2).symm, (w64 hs.1 hs.2).symm, (w64 hN.1 hN.2).symm, qQx _ _ _, rfl⟩
theorem qJy (h : Rm.on1 w nc nr ⟨rx, rk, rm, hv, pc, st, mq, nm⟩ = (⟨A, B, C, D, p, s, Q, N⟩, 1)) (hp : I64 p) (hs : I64 s) (hN : I64 N) :
  let Z := rfsZ w nc (qQq nr (qQq rx (qQq rk (qQq rm (qQq hv (qQq pc (qQq st (qQq mq (qQq nm 0)))))))))
  qQw [.int .i32] A (rdZ Z 0) 32 ∧ qQw [.bool] B (rdZ Z 1) 32 ∧ qQw [.int .i32] C (rdZ Z 2) nr ∧ qQw [.bool] D (rdZ Z 3) nr ∧ p = IntKind.wrap .i64 (rdZ Z 4) ∧ s = IntKind.wrap .i64 (rdZ Z 5) ∧ N = IntKind.wrap .i64 (rdZ Z 7) ∧ qQw [.int .i64, .int .i64, .int .i64] Q (rdZ Z 6) (IntKind.wrap .i64 (rdZ Z 7)) ∧ ¬ rdZ Z 8 = 0 := by
 intro Z
 obtain ⟨q0, q1, q2, q3, q4, q5, q6, q7, q8⟩ := rfs_leaf h hp hs hN
 exact ⟨q0, q1, q2, q3, q4, q5, q6, q7, fun e => by rw [show rdZ Z 8 = 1 from q8] at e; exact absurd e (by decide)⟩
theorem rfs_no (h : Rm.on1 w nc nr ⟨rx, rk, rm, hv, pc, st, mq, nm⟩ = (⟨A, B, C, D, p, s, Q, N⟩, 0)) (hp : I64 p) (hs : I64 s) (hN : I64 N) :
  let Z := rfsZ w nc (qQq nr (qQq rx (qQq rk (qQq rm (qQq hv (qQq pc (qQq st (qQq mq (qQq nm 0)))))))))
  qQw [.int .i32] A (rdZ Z 0) 32 ∧ qQw [.bool] B (rdZ Z 1) 32 ∧ qQw [.int .i32] C (rdZ Z 2) nr ∧ qQw [.bool] D (rdZ Z 3) nr ∧ p = IntKind.wrap .i64 (rdZ Z 4) ∧ s = IntKind.wrap .i64 (rdZ Z 5) ∧ N = IntKind.wrap .i64 (rdZ Z 7) ∧ qQw [.int .i64, .int .i64, .int .i64] Q (rdZ Z 6) (IntKind.wrap .i64 (rdZ Z 7)) ∧ rdZ Z 8 = 0 := rfs_leaf h hp hs hN
theorem rfs_do (h : Rm.on1 w nc nr ⟨rx, rk, rm, hv, pc, st, mq, nm⟩ = (Rm.does ⟨rx, rk, rm, hv, pc, st, mq, nm⟩ nr op d a b n, 1)) :
  let Z := rfsZ w nc (qQq nr (qQq rx (qQq rk (qQq rm (qQq hv (qQq pc (qQq st (qQq mq (qQq nm 0)))))))))
  let Y := rdoZ op d (qQq a (qQq b (qQq n (qQq nr (qQq rx (qQq rk (qQq rm (qQq hv (qQq pc (qQq st (qQq mq (qQq nm 0))))))))))))
  rdZ Z 0 = rdZ Y 0 ∧ rdZ Z 1 = rdZ Y 1 ∧ rdZ Z 2 = rdZ Y 2 ∧ rdZ Z 3 = rdZ Y 3 ∧ rdZ Z 4 = rdZ Y 4 ∧ rdZ Z 5 = rdZ Y 5 ∧ rdZ Z 6 = rdZ Y 6 ∧ rdZ Z 7 = rdZ Y 7 ∧ rdZ Z 8 = 1 := by
 intro Z Y
 obtain ⟨r0, r1, r2, r3, r4, r5, r6, r7, r8⟩ := rfs_rd h
 have hY : Y = _ := rdo_ev
 obtain ⟨q0, q1, q2, q3, q4, q5, q6, q7⟩ := rcode_rd (Rm.does ⟨rx, rk, rm, hv, pc, st, mq, nm⟩ nr op d a b n)
 rw [hY, q0, q1, q2, q3, q4, q5, q6, q7]
 exact ⟨r0, r1, r2, r3, r4, r5, r6, r7, r8⟩
theorem reck_mem {m : Rm} (op d a b : Int) : (m.reck op d a b).rm = m.rm ∧ (m.reck op d a b).hv = m.hv := by
 unfold Rm.reck; split <;> exact ⟨rfl, rfl⟩
theorem rfs_reck (h : Rm.on1 w nc nr ⟨rx, rk, rm, hv, pc, st, mq, nm⟩ = (Rm.does ⟨rx, rk, rm, hv, pc, st, mq, nm⟩ nr op d a b n, 1)) (ho : op ≤ 30) :
  let Z := rfsZ w nc (qQq nr (qQq rx (qQq rk (qQq rm (qQq hv (qQq pc (qQq st (qQq mq (qQq nm 0)))))))))
  let Y := rdoZ op d (qQq a (qQq b (qQq n (qQq nr (qQq rx (qQq rk (qQq rm (qQq hv (qQq pc (qQq st (qQq mq (qQq nm 0))))))))))))
  qQw [.int .i32] (rdZ Y 0) (rdZ Z 0) 32 ∧ qQw [.bool] (rdZ Y 1) (rdZ Z 1) 32 ∧ qQw [.int .i32] rm (rdZ Z 2) nr ∧ qQw [.bool] hv (rdZ Z 3) nr ∧ IntKind.wrap .i64 (rdZ Y 4) = IntKind.wrap .i64 (rdZ Z 4) ∧ IntKind.wrap .i64 (rdZ Y 5) = IntKind.wrap .i64 (rdZ Z 5) ∧ IntKind.wrap .i64 (rdZ Y 7) = IntKind.wrap .i64 (rdZ Z 7) ∧ qQw [.int .i64, .int .i64, .int .i64] (rdZ Y 6) (rdZ Z 6) (IntKind.wrap .i64 (rdZ Z 7)) ∧ ¬ rdZ Z 8 = 0 := by
 intro Z Y
 obtain ⟨r0, r1, r2, r3, r4, r5, r6, r7, r8⟩ := rfs_do h
 obtain ⟨-, -, q2, q3, -⟩ := rfs_rd h
 rw [rdo_reck ho] at q2 q3
 obtain ⟨m1, m2⟩ := reck_mem (m := ⟨rx, rk, rm, hv, pc, st, mq, nm⟩) op d a b
 rw [m1] at q2
 rw [m2] at q3
 show qQw _ _ (rdZ Z 0) 32 ∧ _
 rw [r0, r1, q2, q3, r4, r5, r6, r7, r8]
 exact ⟨qQx _ _ _, qQx _ _ _, qQx _ _ _, qQx _ _ _, rfl, rfl, rfl, qQx _ _ _, by decide⟩
theorem rfs_mem (h : Rm.on1 w nc nr ⟨rx, rk, rm, hv, pc, st, mq, nm⟩ = (Rm.does ⟨rx, rk, rm, hv, pc, st, mq, nm⟩ nr op d a b n, 1)) :
  let Z := rfsZ w nc (qQq nr (qQq rx (qQq rk (qQq rm (qQq hv (qQq pc (qQq st (qQq mq (qQq nm 0)))))))))
  let Y := rdoZ op d (qQq a (qQq b (qQq n (qQq nr (qQq rx (qQq rk (qQq rm (qQq hv (qQq pc (qQq st (qQq mq (qQq nm 0))))))))))))
  qQw [.int .i32] (rdZ Y 0) (rdZ Z 0) 32 ∧ qQw [.bool] (rdZ Y 1) (rdZ Z 1) 32 ∧ qQw [.int .i32] (rdZ Y 2) (rdZ Z 2) nr ∧ qQw [.bool] (rdZ Y 3) (rdZ Z 3) nr ∧ IntKind.wrap .i64 (rdZ Y 4) = IntKind.wrap .i64 (rdZ Z 4) ∧ IntKind.wrap .i64 (rdZ Y 5) = IntKind.wrap .i64 (rdZ Z 5) ∧ IntKind.wrap .i64 (rdZ Y 7) = IntKind.wrap .i64 (rdZ Z 7) ∧ qQw [.int .i64, .int .i64, .int .i64] (rdZ Y 6) (rdZ Z 6) (IntKind.wrap .i64 (rdZ Z 7)) ∧ ¬ rdZ Z 8 = 0 := by
 intro Z Y
 obtain ⟨r0, r1, r2, r3, r4, r5, r6, r7, r8⟩ := rfs_do h
 show qQw _ _ (rdZ Z 0) 32 ∧ _
 rw [r0, r1, r2, r3, r4, r5, r6, r7, r8]
 exact ⟨qQx _ _ _, qQx _ _ _, qQx _ _ _, qQx _ _ _, rfl, rfl, rfl, qQx _ _ _, by decide⟩
theorem rd_31 : Rm.does ⟨rx, rk, rm, hv, pc, st, mq, nm⟩ nr 31 d a b n = ⟨rsxZ rx d (qQq (IntKind.wrap .i32 (IntKind.wrap .i32 (rdZ rx a) + n)) (qQq (rdZ rk a) 0)), rskZ rk d (rdZ rk a), rm, hv, IntKind.wrap .i64 (pc + 1), st, updZ mq nm (qQq pc (qQq (-1) (qQq 1 0))), nm + 1⟩ := by rw [rsx_ev]; rfl
theorem rd_32 : Rm.does ⟨rx, rk, rm, hv, pc, st, mq, nm⟩ nr 32 d a b n = ⟨rsxZ rx d (qQq (aluV 6 (IntKind.wrap .i32 (rdZ rx a)) n) (qQq (rdZ rk a) 0)), rskZ rk d (rdZ rk a), rm, hv, IntKind.wrap .i64 (pc + 1), st, updZ mq nm (qQq pc (qQq (-1) (qQq 1 0))), nm + 1⟩ := by rw [rsx_ev]; rfl
theorem rd_33 : Rm.does ⟨rx, rk, rm, hv, pc, st, mq, nm⟩ nr 33 d a b n = ⟨rsxZ rx d (qQq (IntKind.wrap .i32 (n * 65536)) (qQq 1 0)), rskZ rk d 1, rm, hv, IntKind.wrap .i64 (pc + 1), st, updZ mq nm (qQq pc (qQq (-1) (qQq 1 0))), nm + 1⟩ := by rw [rsx_ev]; rfl
theorem rd_40 : Rm.does ⟨rx, rk, rm, hv, pc, st, mq, nm⟩ nr 40 d a b n = ⟨rsxZ rx d (qQq (IntKind.wrap .i32 (pc + 1)) (qQq 1 0)), rskZ rk d 1, rm, hv, n, st, updZ mq nm (qQq pc (qQq (-1) (qQq 3 0))), nm + 1⟩ := by rw [rsx_ev]; rfl
theorem rd_39 : Rm.does ⟨rx, rk, rm, hv, pc, st, mq, nm⟩ nr 39 d a b n = ⟨rx, rk, rm, hv, n, st, updZ mq nm (qQq pc (qQq (-1) (qQq 3 0))), nm + 1⟩ := rfl
theorem rd_41 : Rm.does ⟨rx, rk, rm, hv, pc, st, mq, nm⟩ nr 41 d a b n = ⟨rx, rk, rm, hv, IntKind.wrap .i32 (rdZ rx a), st, updZ mq nm (qQq pc (qQq (-1) (qQq 3 0))), nm + 1⟩ := rfl
theorem rd_42 : Rm.does ⟨rx, rk, rm, hv, pc, st, mq, nm⟩ nr 42 d a b n = ⟨rx, rk, rm, hv, IntKind.wrap .i64 (pc + 1), st, updZ mq nm (qQq pc (qQq (-1) (qQq 1 0))), nm + 1⟩ := rfl
theorem rd_43 : Rm.does ⟨rx, rk, rm, hv, pc, st, mq, nm⟩ nr 43 d a b n = ⟨rx, rk, rm, hv, pc, 1, updZ mq nm (qQq pc (qQq (-1) (qQq 1 0))), nm + 1⟩ := rfl
theorem rd_36y (h : IntKind.wrap .i32 (rdZ rx d) = IntKind.wrap .i32 (rdZ rx a)) : Rm.does ⟨rx, rk, rm, hv, pc, st, mq, nm⟩ nr 36 d a b n = ⟨rx, rk, rm, hv, n, st, updZ mq nm (qQq pc (qQq (-1) (qQq 3 0))), nm + 1⟩ := by show (if _ then _ else _) = _; exact if_pos h
theorem rd_36n (h : ¬ (IntKind.wrap .i32 (rdZ rx d) = IntKind.wrap .i32 (rdZ rx a))) : Rm.does ⟨rx, rk, rm, hv, pc, st, mq, nm⟩ nr 36 d a b n = ⟨rx, rk, rm, hv, IntKind.wrap .i64 (pc + 1), st, updZ mq nm (qQq pc (qQq (-1) (qQq 1 0))), nm + 1⟩ := by show (if _ then _ else _) = _; exact if_neg h
theorem rd_37y (h : IntKind.wrap .i32 (rdZ rx d) ≠ IntKind.wrap .i32 (rdZ rx a)) : Rm.does ⟨rx, rk, rm, hv, pc, st, mq, nm⟩ nr 37 d a b n = ⟨rx, rk, rm, hv, n, st, updZ mq nm (qQq pc (qQq (-1) (qQq 3 0))), nm + 1⟩ := by show (if _ then _ else _) = _; exact if_pos h
theorem rd_37n (h : ¬ (IntKind.wrap .i32 (rdZ rx d) ≠ IntKind.wrap .i32 (rdZ rx a))) : Rm.does ⟨rx, rk, rm, hv, pc, st, mq, nm⟩ nr 37 d a b n = ⟨rx, rk, rm, hv, IntKind.wrap .i64 (pc + 1), st, updZ mq nm (qQq pc (qQq (-1) (qQq 1 0))), nm + 1⟩ := by show (if _ then _ else _) = _; exact if_neg h
theorem rd_38y (h : IntKind.wrap .i32 (rdZ rx d) < IntKind.wrap .i32 (rdZ rx a)) : Rm.does ⟨rx, rk, rm, hv, pc, st, mq, nm⟩ nr 38 d a b n = ⟨rx, rk, rm, hv, n, st, updZ mq nm (qQq pc (qQq (-1) (qQq 3 0))), nm + 1⟩ := by show (if _ then _ else _) = _; exact if_pos h
theorem rd_38n (h : ¬ (IntKind.wrap .i32 (rdZ rx d) < IntKind.wrap .i32 (rdZ rx a))) : Rm.does ⟨rx, rk, rm, hv, pc, st, mq, nm⟩ nr 38 d a b n = ⟨rx, rk, rm, hv, IntKind.wrap .i64 (pc + 1), st, updZ mq nm (qQq pc (qQq (-1) (qQq 1 0))), nm + 1⟩ := by show (if _ then _ else _) = _; exact if_neg h
theorem ro_fetch (m : Rm) (h : m.pc < 0 ∨ nc ≤ m.pc) : Rm.on1 w nc nr m = ({ m with st := 2 }, 1) := by
 unfold Rm.on1; exact if_pos h
theorem ro_form (m : Rm) (h0 : 0 ≤ m.pc) (h1 : m.pc < nc) (h : decZ (IntKind.wrap .u32 (rdZ w m.pc)) 5 ≠ 0) : Rm.on1 w nc nr m = ({ m with st := 3 }, 1) := by
 unfold Rm.on1; rw [if_neg (by omega)]; exact if_pos h
theorem ro_go (m : Rm) (h0 : 0 ≤ m.pc) (h1 : m.pc < nc) (h : decZ (IntKind.wrap .u32 (rdZ w m.pc)) 5 = 0) {op d a b n : Int} (e0 : op = decZ (IntKind.wrap .u32 (rdZ w m.pc)) 0) (e1 : d = decZ (IntKind.wrap .u32 (rdZ w m.pc)) 1) (e2 : a = decZ (IntKind.wrap .u32 (rdZ w m.pc)) 2) (e3 : b = decZ (IntKind.wrap .u32 (rdZ w m.pc)) 3) (e4 : n = decZ (IntKind.wrap .u32 (rdZ w m.pc)) 4) :
  (¬ m.told op d a b → Rm.on1 w nc nr m = (m, 0)) ∧ (m.told op d a b → Rm.on1 w nc nr m = (m.does nr op d a b n, 1)) := by
 subst e0 e1 e2 e3 e4
 unfold Rm.on1
 simp only
 rw [if_neg (by omega), if_neg (by omega)]
 exact ⟨fun g => if_pos g, fun g => if_neg (fun k => k g)⟩
end
section
variable {nr : Int} {F : Fm} {R : Rm}
theorem zm_k (z : Zm nr F R) {i : Int} (i0 : 0 ≤ i) (i1 : i < 32) : F.k i ≠ 0 ↔ R.k i ≠ 0 := (zm_x z i0 i1).2.1
theorem zm_told (z : Zm nr F R) {op d a b : Int} (d0 : 0 ≤ d) (d1 : d < 32) (a0 : 0 ≤ a) (a1 : a < 32) (b0 : 0 ≤ b) (b1 : b < 32) : F.told op d a b ↔ R.told op d a b := by
 have kd := zm_k z d0 d1
 have ka := zm_k z a0 a1
 have kb := zm_k z b0 b1
 unfold Fm.told Rm.told
 split
 ·exact and_congr ka kb
 ·split
  ·exact and_congr kd ka
  ·exact or_congr ka Iff.rfl
theorem fto_told {rg op d a b : Int} : ftoZ op d (qQq a (qQq b (qQq rg 0))) = 0 ↔ ¬ Fm.told ⟨rg, 0, 0, 0, 0, 0⟩ op d a b := by
 obtain ⟨r0, r1, r2⟩ := rd3 a b rg
 unfold ftoZ
 rw [r0, r1, r2]
 constructor
 ·intro h g; rw [if_pos g] at h; exact absurd h (by decide)
 ·intro h; rw [if_neg h]
end
end Go.Eng
end
