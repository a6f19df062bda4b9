/-
  Parts of the engine, a program's symbolic run, proved sound; and of plain laws.
-/
import Derived.Test.YtemcjakecoceaaaGreatDoorGmD
set_option linter.unusedVariables false
set_option linter.unusedSimpArgs false

/-!  -/
section
namespace Go.Eng
section
variable {rg rm pc st co mq nm d a b n nr : Int}
theorem put_if (m : Mac) (i x : Int) : m.put i x = ⟨if i = 0 then m.rg else updZ m.rg i x, m.rm, m.pc, m.st, m.co, m.mq, m.nm⟩ := by
 by_cases h : i = 0
 ·rw [put_neg h, if_pos h]
 ·rw [put_pos h, if_neg h]
theorem x_31 (h : IntKind.wrap .i32 n = n) : ∃ c, Mac.does ⟨rg, rm, pc, st, co, mq, nm⟩ nr 31 d a b n = ⟨if d = 0 then rg else updZ rg d (IntKind.wrap .i32 (IntKind.wrap .i32 (rdZ rg a) + n)), rm, IntKind.wrap .i64 (pc + 1), st, c, updZ mq nm (consZ pc (consZ (-1) (consZ 1 0))), nm + 1⟩ := by
 rw [does_31' h, put_if]; exact ⟨_, rfl⟩
theorem x_32 (h : IntKind.wrap .i32 n = n) (n1 : -2147483648 ≤ n) (n2 : n ≤ 2147483647) : ∃ c, Mac.does ⟨rg, rm, pc, st, co, mq, nm⟩ nr 32 d a b n = ⟨if d = 0 then rg else updZ rg d (aluV 6 (IntKind.wrap .i32 (rdZ rg a)) n), rm, IntKind.wrap .i64 (pc + 1), st, c, updZ mq nm (consZ pc (consZ (-1) (consZ 1 0))), nm + 1⟩ := by
 rw [does_32' h n1 n2, put_if]; exact ⟨_, rfl⟩
theorem x_33 : ∃ c, Mac.does ⟨rg, rm, pc, st, co, mq, nm⟩ nr 33 d a b n = ⟨if d = 0 then rg else updZ rg d (IntKind.wrap .i32 (n * 65536)), rm, IntKind.wrap .i64 (pc + 1), st, c, updZ mq nm (consZ pc (consZ (-1) (consZ 1 0))), nm + 1⟩ := by
 rw [does_33', put_if]; exact ⟨_, rfl⟩
theorem br_two (m m' : Mac) (h1 : m'.rg = m.rg) (h2 : m'.pc = m.pc) (h3 : m'.mq = m.mq) (h4 : m'.nm = m.nm) (n : Int) (p q : Prop) [Decidable p] [Decidable q] (hp : p ↔ q) : ∃ A P Q c c', m.branch n p = ⟨A, m.rm, P, m.st, c, Q, m.nm + 1⟩ ∧ m'.branch n q = ⟨A, m'.rm, P, m'.st, c', Q, m.nm + 1⟩ := by
 obtain ⟨rg, rm, pc, st, co, mq, nm⟩ := m
 obtain ⟨rg', rm', pc', st', co', mq', nm'⟩ := m'
 simp only at h1 h2 h3 h4
 subst h1 h2 h3 h4
 unfold Mac.branch
 by_cases e : p
 ·rw [if_pos e, if_pos (hp.1 e)]; exact ⟨_, _, _, _, _, rfl, rfl⟩
 ·rw [if_neg e, if_neg (fun g => e (hp.2 g))]; exact ⟨_, _, _, _, _, rfl, rfl⟩
theorem x_goe0 {op : Int} (h1 : 36 ≤ op) (h2 : op ≤ 41) : ∃ A p Q c c', Mac.does ⟨rg, rm, pc, st, co, mq, nm⟩ nr op d a b n = ⟨A, rm, p, st, c, Q, nm + 1⟩ ∧ Mac.does ⟨rg, 0, pc, 0, 0, mq, nm⟩ 0 op d a 0 n = ⟨A, 0, p, 0, c', Q, nm + 1⟩ := by
 have ho : op = 36 ∨ op = 37 ∨ op = 38 ∨ op = 39 ∨ op = 40 ∨ op = 41 := by omega
 rcases ho with rfl | rfl | rfl | rfl | rfl | rfl
 ·rw [does_36, does_36]; exact br_two ⟨rg, rm, pc, st, co, mq, nm⟩ ⟨rg, 0, pc, 0, 0, mq, nm⟩ rfl rfl rfl rfl _ _ _ Iff.rfl
 ·rw [does_37, does_37]; exact br_two ⟨rg, rm, pc, st, co, mq, nm⟩ ⟨rg, 0, pc, 0, 0, mq, nm⟩ rfl rfl rfl rfl _ _ _ Iff.rfl
 ·rw [does_38, does_38]; exact br_two ⟨rg, rm, pc, st, co, mq, nm⟩ ⟨rg, 0, pc, 0, 0, mq, nm⟩ rfl rfl rfl rfl _ _ _ Iff.rfl
 ·rw [does_39, does_39]; exact ⟨_, _, _, _, _, rfl, rfl⟩
 ·rw [does_40, does_40, put_if, put_if]; exact ⟨_, _, _, _, _, rfl, rfl⟩
 ·rw [does_41, does_41]; exact ⟨_, _, _, _, _, rfl, rfl⟩
theorem x_goe {op : Int} (h1 : 36 ≤ op) (h2 : op ≤ 41) : ∃ c, Mac.does ⟨rg, rm, pc, st, co, mq, nm⟩ nr op d a b n = ⟨rdZ (goeZ op d (consZ a (consZ n (consZ rg (consZ pc (consZ mq (consZ nm 0))))))) 0, rm,
  rdZ (goeZ op d (consZ a (consZ n (consZ rg (consZ pc (consZ mq (consZ nm 0))))))) 1, st, c, rdZ (goeZ op d (consZ a (consZ n (consZ rg (consZ pc (consZ mq (consZ nm 0))))))) 2, nm + 1⟩ := by
 obtain ⟨A, p, Q, c, c', e1, e2⟩ := x_goe0 (rg := rg) (rm := rm) (pc := pc) (st := st) (co := co) (mq := mq) (nm := nm) (nr := nr) (d := d) (a := a) (b := b) (n := n) h1 h2
 obtain ⟨r0, r1, r2⟩ := goeZ_rd e2
 rw [r0, r1, r2]
 exact ⟨_, e1⟩
theorem memA_two (m m' : Mac) (h1 : m'.rg = m.rg) (h2 : m'.pc = m.pc) (h3 : m'.mq = m.mq) (h4 : m'.nm = m.nm) (h5 : m'.rm = m.rm) (h6 : m'.st = m.st) (op d x : Int) : ∃ A B P s Q N c c', m.memA nr op d x = ⟨A, B, P, s, c, Q, N⟩ ∧ m'.memA nr op d x = ⟨A, B, P, s, c', Q, N⟩ := by
 obtain ⟨rg, rm, pc, st, co, mq, nm⟩ := m
 obtain ⟨rg', rm', pc', st', co', mq', nm'⟩ := m'
 simp only at h1 h2 h3 h4 h5 h6
 subst h1 h2 h3 h4 h5 h6
 unfold Mac.memA Mac.memo
 simp only [put_if]
 by_cases e : x < 0 ∨ nr ≤ x
 ·rw [if_pos e, if_pos e]; exact ⟨_, _, _, _, _, _, _, _, rfl, rfl⟩
 ·rw [if_neg e, if_neg e]
  by_cases e : 1024 ≤ x
  ·rw [if_pos e, if_pos e]
   by_cases f : op = 35
   ·rw [if_pos f, if_pos f]; exact ⟨_, _, _, _, _, _, _, _, rfl, rfl⟩
   ·rw [if_neg f, if_neg f]; exact ⟨_, _, _, _, _, _, _, _, rfl, rfl⟩
  ·rw [if_neg e, if_neg e]
   by_cases f : op = 35
   ·rw [if_pos f, if_pos f]; exact ⟨_, _, _, _, _, _, _, _, rfl, rfl⟩
   ·rw [if_neg f, if_neg f]; exact ⟨_, _, _, _, _, _, _, _, rfl, rfl⟩
theorem x_mem {op : Int} (h1 : op = 34 ∨ op = 35) : ∃ c, Mac.does ⟨rg, rm, pc, st, co, mq, nm⟩ nr op d a b n = ⟨rdZ (memZ op d (consZ a (consZ n (consZ nr (consZ rg (consZ rm (consZ pc (consZ st (consZ mq (consZ nm 0)))))))))) 0,
  rdZ (memZ op d (consZ a (consZ n (consZ nr (consZ rg (consZ rm (consZ pc (consZ st (consZ mq (consZ nm 0)))))))))) 1, rdZ (memZ op d (consZ a (consZ n (consZ nr (consZ rg (consZ rm (consZ pc (consZ st (consZ mq (consZ nm 0)))))))))) 2,
  rdZ (memZ op d (consZ a (consZ n (consZ nr (consZ rg (consZ rm (consZ pc (consZ st (consZ mq (consZ nm 0)))))))))) 3, c, rdZ (memZ op d (consZ a (consZ n (consZ nr (consZ rg (consZ rm (consZ pc (consZ st (consZ mq (consZ nm 0)))))))))) 4,
  rdZ (memZ op d (consZ a (consZ n (consZ nr (consZ rg (consZ rm (consZ pc (consZ st (consZ mq (consZ nm 0)))))))))) 5⟩ := by
 have h : ∃ A B p s Q N c c', Mac.does ⟨rg, rm, pc, st, co, mq, nm⟩ nr op d a b n = ⟨A, B, p, s, c, Q, N⟩ ∧ Mac.does ⟨rg, rm, pc, st, 0, mq, nm⟩ nr op d a 0 n = ⟨A, B, p, s, c', Q, N⟩ := by
  rcases h1 with rfl | rfl
  ·rw [does_34, does_34]; exact memA_two ⟨rg, rm, pc, st, co, mq, nm⟩ ⟨rg, rm, pc, st, 0, mq, nm⟩ rfl rfl rfl rfl rfl rfl _ _ _
  ·rw [does_35, does_35]; exact memA_two ⟨rg, rm, pc, st, co, mq, nm⟩ ⟨rg, rm, pc, st, 0, mq, nm⟩ rfl rfl rfl rfl rfl rfl _ _ _
 obtain ⟨A, B, p, s, Q, N, c, c', e1, e2⟩ := h
 obtain ⟨r0, r1, r2, r3, r4, r5⟩ := memZ_rd e2
 rw [r0, r1, r2, r3, r4, r5]
 exact ⟨_, e1⟩
theorem x_42 : ∃ c, Mac.does ⟨rg, rm, pc, st, co, mq, nm⟩ nr 42 d a b n = ⟨rg, rm, IntKind.wrap .i64 (pc + 1), st, c, updZ mq nm (consZ pc (consZ (-1) (consZ 1 0))), nm + 1⟩ := by
 rw [does_42, oc42]; exact ⟨_, rfl⟩
theorem x_43 : ∃ c, Mac.does ⟨rg, rm, pc, st, co, mq, nm⟩ nr 43 d a b n = ⟨rg, rm, pc, 1, c, updZ mq nm (consZ pc (consZ (-1) (consZ 1 0))), nm + 1⟩ := by
 rw [does_43, oc43]; exact ⟨_, rfl⟩
theorem x_aluno {op : Int} (h : op ≤ 30) (h0 : aluK op (IntKind.wrap .i32 (rdZ rg a)) (IntKind.wrap .i32 (rdZ rg b)) = 0) : ∃ c, Mac.does ⟨rg, rm, pc, st, co, mq, nm⟩ nr op d a b n = ⟨rg, rm, pc, 5, c, mq, nm⟩ := by
 rw [does_alu h]; exact ⟨_, if_pos h0⟩
theorem x_alu {op : Int} (h : op ≤ 30) (h0 : ¬ aluK op (IntKind.wrap .i32 (rdZ rg a)) (IntKind.wrap .i32 (rdZ rg b)) = 0) : ∃ c, Mac.does ⟨rg, rm, pc, st, co, mq, nm⟩ nr op d a b n =
  ⟨if d = 0 then rg else updZ rg d (aluV op (IntKind.wrap .i32 (rdZ rg a)) (IntKind.wrap .i32 (rdZ rg b))), rm, IntKind.wrap .i64 (pc + 1), st, c, updZ mq nm (consZ pc (consZ (-1) (consZ (aluC op (IntKind.wrap .i32 (rdZ rg a))) 0))), nm + 1⟩ := by
 rw [does_alu h]; exact ⟨_, (if_neg h0).trans (by rw [put_if]; rfl)⟩
theorem x_fetch {cq nc : Int} (h : st = 0) (g : pc < 0 ∨ nc ≤ pc) : ∃ c, Mac.step cq nc nr ⟨rg, rm, pc, st, co, mq, nm⟩ = ⟨rg, rm, pc, 2, c, mq, nm⟩ := by
 unfold Mac.step; rw [if_neg (by show ¬ st ≠ 0; omega)]; exact ⟨_, if_pos g⟩
theorem x_stop {cq nc : Int} (h : st ≠ 0) : ∃ c, Mac.step cq nc nr ⟨rg, rm, pc, st, co, mq, nm⟩ = ⟨rg, rm, pc, st, c, mq, nm⟩ := ⟨_, step_stop h _ _ _⟩
theorem x_dec {w : Int} {k : Nat} (h : st = 0) (g0 : 0 ≤ pc) (g1 : pc < k) (nr : Int) : Mac.step (decC w k) k nr ⟨rg, rm, pc, st, co, mq, nm⟩ = if decZ (IntKind.wrap .u32 (rdZ w pc)) 5 = 0 then Mac.does ⟨rg, rm, pc, st, co, mq, nm⟩ nr (decZ (IntKind.wrap .u32 (rdZ w pc)) 0) (decZ (IntKind.wrap .u32 (rdZ w pc)) 1) (decZ (IntKind.wrap .u32 (rdZ w pc)) 2) (decZ (IntKind.wrap .u32 (rdZ w pc)) 3) (decZ (IntKind.wrap .u32 (rdZ w pc)) 4) else ⟨rg, rm, pc, 3, co, mq, nm⟩ := by
 have hd := decC_rd w k pc.toNat (by omega)
 rw [show ((pc.toNat : Nat) : Int) = pc by omega] at hd
 obtain ⟨r0, r1, r2, r3, r4, r5⟩ := decR_rd (IntKind.wrap .u32 (rdZ w pc))
 have z := decZ_bd (IntKind.wrap .u32 (rdZ w pc))
 have v : ∀ j, IntKind.wrap .i64 (decZ (IntKind.wrap .u32 (rdZ w pc)) j) = decZ (IntKind.wrap .u32 (rdZ w pc)) j := fun j => w64 (by have := z j; omega) (by have := z j; omega)
 unfold Mac.step
 rw [if_neg (by show ¬ st ≠ 0; omega), if_neg (by show ¬ (pc < 0 ∨ (k : Int) ≤ pc); omega)]
 simp only
 rw [hd, r0, r1, r2, r3, r4, r5, v 0, v 1, v 2, v 3, v 4]
 by_cases e : decZ (IntKind.wrap .u32 (rdZ w pc)) 5 = 0
 ·rw [if_pos e, if_neg (by simp [bool01, e])]
 ·rw [if_neg e, if_pos (by simp [bool01, e])]
end
theorem dec_in (x : Int) (h : decZ (IntKind.wrap .u32 x) 5 = 0) : (1 ≤ decZ (IntKind.wrap .u32 x) 0 ∧ decZ (IntKind.wrap .u32 x) 0 ≤ 43) ∧ (0 ≤ decZ (IntKind.wrap .u32 x) 1 ∧ decZ (IntKind.wrap .u32 x) 1 < 32) ∧ (0 ≤ decZ (IntKind.wrap .u32 x) 2 ∧ decZ (IntKind.wrap .u32 x) 2 < 32) ∧
  (0 ≤ decZ (IntKind.wrap .u32 x) 3 ∧ decZ (IntKind.wrap .u32 x) 3 < 32) ∧ (-32768 ≤ decZ (IntKind.wrap .u32 x) 4 ∧ decZ (IntKind.wrap .u32 x) 4 ≤ 65535) := by
 have hr := decR_ok x
 obtain ⟨r0, r1, r2, r3, r4, r5⟩ := decR_rd (IntKind.wrap .u32 x)
 have z := decZ_bd (IntKind.wrap .u32 x)
 have v : ∀ j, IntKind.wrap .i64 (decZ (IntKind.wrap .u32 x) j) = decZ (IntKind.wrap .u32 x) j := fun j => w64 (by have := z j; omega) (by have := z j; omega)
 unfold okRow at hr
 rw [r0, r1, r2, r3, r4, r5, v 0, v 1, v 2, v 3, v 4] at hr
 exact hr (by simp [bool01, h])
structure Cp (c0 c1 : Int) (k : Nat) (n1 i : Int) (A X : Mac) : Prop where
 run : A = (Mac.runs (decC c0 k) k n1 i.toNat (macM (nuP c1))).1
 nn : 0 ≤ i
 sim : Sim n1 A X
section
variable {c0 c1 n1 i rg rm pc st co mq nm xrg xrm xpc xst xmq xnm xg xm xp xs xq xn B S : Int} {k : Nat}
theorem cp_ok {A X : Mac} (h : Cp c0 c1 k n1 i A X) : A.ok ∧ A.nm ≤ i := by
 obtain ⟨a1, a2, a3, a4⟩ := runs_ok (macM_ok (nuP c1)) (decC c0 k) k n1 i.toNat
 rw [← h.run] at a1 a2 a3
 have : (macM (nuP c1)).nm = 0 := by rw [macM_nu]
 have := h.nn
 exact ⟨a1, by omega⟩
theorem cp_step {A X : Mac} (h : Cp c0 c1 k n1 i A X) : Cp c0 c1 k n1 (i + 1) (A.step (decC c0 k) k n1) (X.step (decC c0 k) k n1) := by
 have h0 := h.nn
 refine ⟨?_, by omega, sim_step h.sim _ _⟩
 rw [show (i + 1).toNat = i.toNat + 1 by omega, runs_succ, ← h.run]
 by_cases e : A.st = 0
 ·rw [if_pos e]
 ·rw [if_neg e, step_stop e]; exact h.run
theorem ex_of {s t : Mac} {a b p q r u : Int} (hs : s = t) (h : ∃ c, t = ⟨a, b, p, q, c, r, u⟩) : ∃ c, s = ⟨a, b, p, q, c, r, u⟩ := by rw [hs]; exact h
theorem cp_wp {A : Mac} {x p s : Int} (h : Cp c0 c1 k n1 i A ⟨x, xm, p, s, co, xq, xn⟩) : Cp c0 c1 k n1 i A ⟨x, xm, IntKind.wrap .i64 p, s, co, xq, xn⟩ := by
 have h2 : p = A.pc := h.sim.2.1
 have := (cp_ok h).1.1
 rwa [w64 (x := p) (by rw [h2]; exact this.1) (by rw [h2]; exact this.2)]
theorem cp_wm {A : Mac} {x p s : Int} (hi : i ≤ 1000) (h : Cp c0 c1 k n1 i A ⟨x, xm, p, s, co, xq, xn⟩) : Cp c0 c1 k n1 i A ⟨x, xm, IntKind.wrap .i64 p, IntKind.wrap .i64 s, co, xq, IntKind.wrap .i64 xn⟩ := by
 have h := cp_wp h
 have h3 : s = A.st := h.sim.2.2.1
 have h6 : xn = A.nm := h.sim.2.2.2.2.2.1
 obtain ⟨⟨o1, o2, o3, o4⟩, o5⟩ := cp_ok h
 rwa [w64 (x := s) (by rw [h3]; exact o2.1) (by rw [h3]; exact o2.2), w64 (x := xn) (by omega) (by omega)]
theorem memEq_refl (n a : Int) : memEq n a a := fun _ _ _ => rfl
end
section
variable {wq nr rg rm pc st mq nm A B B' p s Q n : Int} {k : Nat}
theorem rst_in (h0 : I64 pc) (h1 : I64 st) (h2 : 0 ≤ nm) (h3 : nm ≤ 999999) (hX : ∃ c, Mac.step (decC wq k) k nr ⟨rg, rm, pc, st, 0, mq, nm⟩ = ⟨A, B', p, s, c, Q, n⟩) : I64 p ∧ I64 s ∧ I64 n := by
 obtain ⟨c, hX⟩ := hX
 have g := good_step (m := ⟨rg, rm, pc, st, 0, mq, nm⟩) ⟨h0, h1, by show I64 0; unfold I64; omega, h2⟩ (decC wq k) k nr
 rw [hX] at g
 obtain ⟨⟨g1, g2, _, _⟩, g3, g4⟩ := g
 simp only at g1 g2 g3 g4
 exact ⟨g1, g2, by unfold I64; omega⟩
theorem rst_x (h0 : I64 pc) (h1 : I64 st) (h2 : 0 ≤ nm) (h3 : nm ≤ 999999) (hX : ∃ c, Mac.step (decC wq k) k nr ⟨rg, rm, pc, st, 0, mq, nm⟩ = ⟨A, B', p, s, c, Q, n⟩) (hB : memEq nr B' B) :
  let Z := rstZ wq k (consZ rg (consZ rm (consZ nr (consZ pc (consZ st (consZ mq (consZ nm 0)))))))
  rowEq [.int .i32] A (rdZ Z 0) 32 ∧ rowEq [.int .i32] B (rdZ Z 1) nr ∧ p = IntKind.wrap .i64 (rdZ Z 2) ∧ s = IntKind.wrap .i64 (rdZ Z 3) ∧ n = IntKind.wrap .i64 (rdZ Z 5) ∧
   rowEq [.int .i64, .int .i64, .int .i64] Q (rdZ Z 4) (IntKind.wrap .i64 (rdZ Z 5)) := by
 obtain ⟨i1, i2, i3⟩ := rst_in h0 h1 h2 h3 hX
 obtain ⟨c, hX⟩ := hX
 exact rst_leaf (nc := k) (by simpa using hX) (rowEq_one fun i hi => (hB i (Int.natCast_nonneg _) hi).symm) i1 i2 i3
theorem rst_w (h0 : I64 pc) (h1 : I64 st) (h2 : 0 ≤ nm) (h3 : nm ≤ 999999) (hX : ∃ c, Mac.step (decC wq k) k nr ⟨rg, rm, pc, st, 0, mq, nm⟩ = ⟨A, B', p, s, c, Q, n⟩) (hB : memEq nr B' B) :
  let Z := rstZ wq k (consZ rg (consZ rm (consZ nr (consZ pc (consZ st (consZ mq (consZ nm 0)))))))
  rowEq [.int .i32] A (rdZ Z 0) 32 ∧ rowEq [.int .i32] B (rdZ Z 1) nr ∧ IntKind.wrap .i64 p = IntKind.wrap .i64 (rdZ Z 2) ∧ IntKind.wrap .i64 s = IntKind.wrap .i64 (rdZ Z 3) ∧ IntKind.wrap .i64 n = IntKind.wrap .i64 (rdZ Z 5) ∧
   rowEq [.int .i64, .int .i64, .int .i64] Q (rdZ Z 4) (IntKind.wrap .i64 (rdZ Z 5)) := by
 obtain ⟨i1, i2, i3⟩ := rst_in h0 h1 h2 h3 hX
 rw [w64 i1.1 i1.2, w64 i2.1 i2.2, w64 i3.1 i3.2]
 exact rst_x h0 h1 h2 h3 hX hB
theorem rst_p (h0 : I64 pc) (h1 : I64 st) (h2 : 0 ≤ nm) (h3 : nm ≤ 999999) (hX : ∃ c, Mac.step (decC wq k) k nr ⟨rg, rm, pc, st, 0, mq, nm⟩ = ⟨A, B', p, s, c, Q, n⟩) (hB : memEq nr B' B) :
  let Z := rstZ wq k (consZ rg (consZ rm (consZ nr (consZ pc (consZ st (consZ mq (consZ nm 0)))))))
  rowEq [.int .i32] A (rdZ Z 0) 32 ∧ rowEq [.int .i32] B (rdZ Z 1) nr ∧ IntKind.wrap .i64 p = IntKind.wrap .i64 (rdZ Z 2) ∧ s = IntKind.wrap .i64 (rdZ Z 3) ∧ n = IntKind.wrap .i64 (rdZ Z 5) ∧
   rowEq [.int .i64, .int .i64, .int .i64] Q (rdZ Z 4) (IntKind.wrap .i64 (rdZ Z 5)) := by
 obtain ⟨i1, i2, i3⟩ := rst_in h0 h1 h2 h3 hX
 rw [w64 i1.1 i1.2]
 exact rst_x h0 h1 h2 h3 hX hB
end
section
variable {rg rm pc st co co' mq nm d a b n nr op : Int}
theorem two_of {x y : Mac} {A B p s Q N : Int} (h : ∃ c, x = ⟨A, B, p, s, c, Q, N⟩) (h' : ∃ c, y = ⟨A, B, p, s, c, Q, N⟩) : ∃ A B p s Q N c c', x = ⟨A, B, p, s, c, Q, N⟩ ∧ y = ⟨A, B, p, s, c', Q, N⟩ :=
 let ⟨c, e⟩ := h; let ⟨c', e'⟩ := h'; ⟨A, B, p, s, Q, N, c, c', e, e'⟩
theorem does_two (o1 : 1 ≤ op) (o2 : op ≤ 43) (n1 : -32768 ≤ n) (n2 : n ≤ 65535) : ∃ A B p s Q N c c', Mac.does ⟨rg, rm, pc, st, co, mq, nm⟩ nr op d a b n = ⟨A, B, p, s, c, Q, N⟩ ∧ Mac.does ⟨rg, rm, pc, st, co', mq, nm⟩ nr op d a b n = ⟨A, B, p, s, c', Q, N⟩ := by
 have w4 : IntKind.wrap .i32 n = n := wi32 (by omega) (by omega)
 by_cases h : op ≤ 30
 ·by_cases g : aluK op (IntKind.wrap .i32 (rdZ rg a)) (IntKind.wrap .i32 (rdZ rg b)) = 0
  ·exact two_of (x_aluno h g) (x_aluno h g)
  ·exact two_of (x_alu h g) (x_alu h g)
 by_cases h1 : op = 31
 ·subst h1; exact two_of (x_31 w4) (x_31 w4)
 by_cases h2 : op = 32
 ·subst h2; exact two_of (x_32 w4 (by omega) (by omega)) (x_32 w4 (by omega) (by omega))
 by_cases h3 : op = 33
 ·subst h3; exact two_of x_33 x_33
 by_cases h4 : op = 34 ∨ op = 35
 ·exact two_of (x_mem h4) (x_mem h4)
 by_cases h5 : op ≤ 41
 ·exact two_of (x_goe (by omega) h5) (x_goe (by omega) h5)
 by_cases h6 : op = 42
 ·subst h6; exact two_of x_42 x_42
 have h7 : op = 43 := by omega
 subst h7
 exact two_of x_43 x_43
theorem step_two {w : Int} {k : Nat} : ∃ A B p s Q N c c', Mac.step (decC w k) k nr ⟨rg, rm, pc, st, co, mq, nm⟩ = ⟨A, B, p, s, c, Q, N⟩ ∧ Mac.step (decC w k) k nr ⟨rg, rm, pc, st, co', mq, nm⟩ = ⟨A, B, p, s, c', Q, N⟩ := by
 by_cases h : st = 0
 ·by_cases g : pc < 0 ∨ (k : Int) ≤ pc
  ·exact two_of (x_fetch h g) (x_fetch h g)
  ·rw [x_dec h (by omega) (by omega), x_dec h (by omega) (by omega)]
   by_cases e : decZ (IntKind.wrap .u32 (rdZ w pc)) 5 = 0
   ·rw [if_pos e, if_pos e]
    obtain ⟨⟨a1, a2⟩, _, _, _, a3, a4⟩ := dec_in (rdZ w pc) e
    exact does_two a1 a2 a3 a4
   ·rw [if_neg e, if_neg e]; exact ⟨_, _, _, _, _, _, _, _, rfl, rfl⟩
 ·exact two_of (x_stop h) (x_stop h)
theorem x_rst {w : Int} {k : Nat} {Z : Int} (hZ : Z = rstZ w k (consZ rg (consZ rm (consZ nr (consZ pc (consZ st (consZ mq (consZ nm 0)))))))) : ∃ c, Mac.step (decC w k) k nr ⟨rg, rm, pc, st, co, mq, nm⟩ = ⟨rdZ Z 0, rdZ Z 1, rdZ Z 2, rdZ Z 3, c, rdZ Z 4, rdZ Z 5⟩ := by
 obtain ⟨A, B, p, s, Q, N, c, c', e, e'⟩ := step_two (rg := rg) (rm := rm) (pc := pc) (st := st) (co := co) (co' := 0) (mq := mq) (nm := nm) (nr := nr) (w := w) (k := k)
 have h := rstZ_code w k nr rg rm pc st mq nm
 rw [show (k : Int).toNat = k from rfl, e'] at h
 rw [← hZ] at h
 have q : ∀ i : Int, rdZ Z i = [A, B, p, s, Q, N].getD i.toNat 0 := fun i => by rw [h]; exact rdZ_LZ _ _
 refine ⟨c, e.trans ?_⟩
 rw [q 0, q 1, q 2, q 3, q 4, q 5]
 rfl
end
section
variable {wq nr rg rm pc st mq nm A p s Q n nc : Int} {k : Nat}
end
end Go.Eng
end
