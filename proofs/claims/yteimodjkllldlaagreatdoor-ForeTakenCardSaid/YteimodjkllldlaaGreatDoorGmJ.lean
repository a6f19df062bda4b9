/-
  Parts of the engine, a program's symbolic run, proved sound; and of plain laws.
-/
import Derived.Test.YteimodjkllldlaaGreatDoorGmC
import Derived.Test.YteimodjkllldlaaGreatDoorGmP
set_option linter.unusedVariables false
set_option linter.unusedSimpArgs false

/-!  -/
noncomputable section
namespace Go.Eng
theorem chS_ev : ∀ (l : List Int) (i : Nat), rdZ (chS l) i = l.getD i 0
 | [], i => by simp [chS, qXz]
 | x :: l, 0 => by simp only [chS]; exact qQk _ _
 | x :: l, i + 1 => by
  simp only [chS]
  rw [qQg _ _ (by omega)]
  have := chS_ev l i
  rw [show ((i + 1 : Nat) : Int) - 1 = i by omega, this]
  simp
theorem cdS_str {l : List Int} (b : List UInt8) (h : l = b.map fun u => (u.toNat : Int)) (hl : b.length ≤ 1000000) : qQr (cdS l) = ⟨b.toArray⟩ := by
 refine strOf_eq ?_ (by simpa [ByteArray.size] using hl) ?_
 ·unfold cdS; rw [qQk, h]; simp [ByteArray.size]
 ·intro i hi
  unfold cdS
  have h1 : rdZ (qQq (l.length : Int) (qQq (chS l) 0)) 1 = chS l := by
   rw [qQg _ _ (by omega)]; exact qQk _ _
  have hi' : i < b.length := by simpa [ByteArray.size] using hi
  rw [h1, chS_ev, h]
  simp only [List.getD_eq_getElem?_getD, List.getElem?_map, List.getElem?_eq_getElem hi', Option.map_some, Option.getD_some]
  have := UInt8.toNat_lt b[i]
  simp only [List.getElem_toArray]
  omega
theorem seq_cd {l m : List Int} (b c : List UInt8) (h : l = b.map fun u => (u.toNat : Int)) (g : m = c.map fun u => (u.toNat : Int)) (hl : b.length ≤ 1000000) (gl : c.length ≤ 1000000) : seqZ (cdS l) (cdS m) = if b = c then 1 else 0 := by
 unfold seqZ
 rw [cdS_str b h hl, cdS_str c g gl]
 by_cases e : b = c
 ·subst e; simp
 ·rw [if_neg e, if_neg]
  intro h
  exact e (by have := congrArg (fun x : ByteArray => x.data.toList) h; simpa using this)
def opB : List (List UInt8) → Int → List UInt8 → Int
 | [], _, _ => 0
 | n :: l, k, s => if n = s then k else opB l (k + 1) s
theorem opF_B {c : List UInt8} (gl : c.length ≤ 1000000) : ∀ (l : List (List UInt8)) (k : Int), (∀ n ∈ l, n.length ≤ 1000000) → opF (l.map fun n => n.map fun u => (u.toNat : Int)) k (cdS (c.map fun u => (u.toNat : Int))) = opB l k c
 | [], k, _ => rfl
 | n :: l, k, h => by
  simp only [List.map_cons, opF, opB]
  rw [seq_cd n c rfl rfl (h n List.mem_cons_self) gl, opF_B gl l (k + 1) fun m hm => h m (List.mem_cons_of_mem _ hm)]
  by_cases e : n = c
  ·rw [if_pos e, if_pos e]; rfl
  ·rw [if_neg e, if_neg e]; rfl
def opNamesB : List (List UInt8) := opNames.map fun n => n.map fun x => UInt8.ofNat x.toNat
theorem opN_B : opNames = opNamesB.map fun n => n.map fun u => (u.toNat : Int) := by decide
theorem opf_at (c : List UInt8) (gl : c.length ≤ 1000000) : opfZ (cdS (c.map fun u => (u.toNat : Int))) = opB opNamesB 1 c := by
 unfold opfZ
 rw [opN_B]
 exact opF_B gl _ _ (by decide)
theorem qZh {n : List Int} {l : List (List Int)} {k k' s c X : Int} (hX : X = opF (n :: l) k s) (hk : k' = k) (h : c = cdS n) (g : seqZ c s ≠ 0) : k' = X := by rw [hX, opF, ← h, if_pos g, hk]
theorem qZi {n : List Int} {l : List (List Int)} {k s c X : Int} (hX : X = opF (n :: l) k s) (h : c = cdS n) (g : seqZ c s = 0) : X = opF l (k + 1) s := by
 rw [hX, opF, ← h, if_neg (by rw [g]; decide)]
theorem fcode_rd (m : Fm) : rdZ m.code 0 = m.rg ∧ rdZ m.code 1 = m.rm ∧ rdZ m.code 2 = m.pc ∧ rdZ m.code 3 = m.st ∧ rdZ m.code 4 = m.mq ∧ rdZ m.code 5 = m.nm := by
 unfold Fm.code
 simp only [rdZ_LZ]
 exact ⟨rfl, rfl, rfl, rfl, rfl, rfl⟩
section
variable {op d a b n nr rg rm pc st mq nm A B p s Q N : Int}
theorem fdo_ev : fdoZ op d (qQq a (qQq b (qQq n (qQq nr (qQq rg (qQq rm (qQq pc (qQq st (qQq mq (qQq nm 0)))))))))) = (Fm.does ⟨rg, rm, pc, st, mq, nm⟩ nr op d a b n).code := by
 have h := qXa [a, b, n, nr, rg, rm, pc, st, mq, nm]
 have h0 := h 0; have h1 := h 1; have h2 := h 2; have h3 := h 3; have h4 := h 4; have h5 := h 5; have h6 := h 6; have h7 := h 7; have h8 := h 8; have h9 := h 9
 unfold fdoZ
 generalize hz : (qQq a (qQq b (qQq n (qQq nr (qQq rg (qQq rm (qQq pc (qQq st (qQq mq (qQq nm 0)))))))))) = z
 have hc : chn [a, b, n, nr, rg, rm, pc, st, mq, nm] = z := by rw [← hz]; rfl
 rw [hc] at h0 h1 h2 h3 h4 h5 h6 h7 h8 h9
 have e0 : rdZ z 0 = a := h0
 have e1 : rdZ z 1 = b := h1
 have e2 : rdZ z 2 = n := h2
 have e3 : rdZ z 3 = nr := h3
 have e4 : rdZ z 4 = rg := h4
 have e5 : rdZ z 5 = rm := h5
 have e6 : rdZ z 6 = pc := h6
 have e7 : rdZ z 7 = st := h7
 have e8 : rdZ z 8 = mq := h8
 have e9 : rdZ z 9 = nm := h9
 rw [e0, e1, e2, e3, e4, e5, e6, e7, e8, e9]
theorem qXg (hX : Fm.does ⟨rg, rm, pc, st, mq, nm⟩ nr op d a b n = ⟨A, B, p, s, Q, N⟩) (hp : I64 p) (hs : I64 s) (hN : I64 N) :
  let Z := fdoZ op d (qQq a (qQq b (qQq n (qQq nr (qQq rg (qQq rm (qQq pc (qQq st (qQq mq (qQq nm 0))))))))))
  qZa [.int .i32, .bool] A (rdZ Z 0) 32 ∧ qZa [.int .i32, .bool] B (rdZ Z 1) nr ∧ p = IntKind.wrap .i64 (rdZ Z 2) ∧ s = IntKind.wrap .i64 (rdZ Z 3) ∧ N = IntKind.wrap .i64 (rdZ Z 5) ∧ qZa [.int .i64, .int .i64, .int .i64] Q (rdZ Z 4) (IntKind.wrap .i64 (rdZ Z 5)) := by
 intro Z
 have hZ : Z = Fm.code ⟨A, B, p, s, Q, N⟩ := by rw [← hX]; exact fdo_ev
 obtain ⟨r0, r1, r2, r3, r4, r5⟩ := fcode_rd ⟨A, B, p, s, Q, N⟩
 rw [hZ, r0, r1, r2, r3, r4, r5]
 exact ⟨qQd _ _ _, qQd _ _ _, (w64 hp.1 hp.2).symm, (w64 hs.1 hs.2).symm, (w64 hN.1 hN.2).symm, qQd _ _ _⟩
theorem qXb (hX : Fm.does ⟨rg, rm, pc, st, mq, nm⟩ nr op d a b n = ⟨A, B, p, s, Q, N⟩) (hp : I64 p) (hs : I64 s) (hN : I64 N) :
  let Z := fdoZ op d (qQq a (qQq b (qQq n (qQq nr (qQq rg (qQq rm (qQq pc (qQq st (qQq mq (qQq nm 0))))))))))
  qZa [.int .i32, .bool] A (rdZ Z 0) 32 ∧ p = IntKind.wrap .i64 (rdZ Z 2) ∧ s = IntKind.wrap .i64 (rdZ Z 3) ∧ N = IntKind.wrap .i64 (rdZ Z 5) ∧ qZa [.int .i64, .int .i64, .int .i64] Q (rdZ Z 4) (IntKind.wrap .i64 (rdZ Z 5)) :=
 have h := qXg hX hp hs hN
 ⟨h.1, h.2.2⟩
theorem fpu_ev (rg i x k : Int) : fpuZ rg i (qQq x (qQq k 0)) = if i ≠ 0 then updZ rg i (mayZ x k) else rg := by
 have h1 : rdZ (qQq x (qQq k 0)) 1 = k := by rw [qQg _ _ (by omega)]; exact qQk _ _
 unfold fpuZ Fm.put
 rw [qQk, h1]
 by_cases h : i ≠ 0
 ·rw [if_pos h, if_pos h]
 ·rw [if_neg h, if_neg h]
theorem fput_ev (x k : Int) : Fm.put ⟨rg, rm, pc, st, mq, nm⟩ d (mayZ x k) = ⟨fpuZ rg d (qQq x (qQq k 0)), rm, pc, st, mq, nm⟩ := by
 rw [fpu_ev]
 unfold Fm.put
 by_cases h : d ≠ 0
 ·rw [if_pos h, if_pos h]
 ·rw [if_neg h, if_neg h]
theorem both_no {p q z : Int} (h : p = 0 ∨ q = 0) : both p q z = mayZ 0 0 := by unfold both; rw [if_neg (by omega)]
theorem both_yes {p q z : Int} (h : p ≠ 0) (g : q ≠ 0) : both p q z = mayZ z 1 := by unfold both; rw [if_pos ⟨h, g⟩]
variable {m : Fm}
theorem fdo_reck (h : op ≤ 30) (hb : B = if op ≤ 23 then b else a) : m.does nr op d a b n = m.reck op d a B := by unfold Fm.does; rw [if_pos h, ← hb]
theorem reck_no (h : op = 22 ∨ op = 23) (hx : IntKind.wrap .i32 (rdZ (rdZ rg B) 0) = 0) : Fm.reck ⟨rg, rm, pc, st, mq, nm⟩ op d a B = ⟨rg, rm, pc, 5, mq, nm⟩ := by unfold Fm.reck; exact if_pos ⟨h, hx⟩
theorem reck_un (h : ¬ ((op = 22 ∨ op = 23) ∧ IntKind.wrap .i32 (rdZ (rdZ rg B) 0) = 0)) (hk : rdZ (rdZ rg a) 1 = 0 ∨ rdZ (rdZ rg B) 1 = 0) :
  Fm.reck ⟨rg, rm, pc, st, mq, nm⟩ op d a B = ⟨fpuZ rg d (qQq 0 (qQq 0 0)), rm, IntKind.wrap .i64 (pc + 1), st, updZ mq nm (qQq pc (qQq (-1) (qQq (aluC op (IntKind.wrap .i32 (rdZ (rdZ rg a) 0))) 0))), nm + 1⟩ := by
 unfold Fm.reck
 refine (if_neg h).trans ?_
 simp only [Fm.k, Fm.x]
 rw [both_no hk, fput_ev]; rfl
theorem reck_kn (h : ¬ ((op = 22 ∨ op = 23) ∧ IntKind.wrap .i32 (rdZ (rdZ rg B) 0) = 0)) (hk : rdZ (rdZ rg a) 1 ≠ 0) (hl : rdZ (rdZ rg B) 1 ≠ 0) :
  Fm.reck ⟨rg, rm, pc, st, mq, nm⟩ op d a B = ⟨fpuZ rg d (qQq (aluV op (IntKind.wrap .i32 (rdZ (rdZ rg a) 0)) (IntKind.wrap .i32 (rdZ (rdZ rg B) 0))) (qQq 1 0)), rm, IntKind.wrap .i64 (pc + 1), st, updZ mq nm (qQq pc (qQq (-1) (qQq (aluC op (IntKind.wrap .i32 (rdZ (rdZ rg a) 0))) 0))), nm + 1⟩ := by
 unfold Fm.reck
 refine (if_neg h).trans ?_
 simp only [Fm.k, Fm.x]
 rw [both_yes hk hl, fput_ev]; rfl
theorem fd31u (h : op = 31) (hk : rdZ (rdZ rg a) 1 = 0) : Fm.does ⟨rg, rm, pc, st, mq, nm⟩ nr op d a b n = ⟨fpuZ rg d (qQq 0 (qQq 0 0)), rm, IntKind.wrap .i64 (pc + 1), st, updZ mq nm (qQq pc (qQq (-1) (qQq 1 0))), nm + 1⟩ := by
 subst h; unfold Fm.does; rw [if_neg (by decide), if_pos rfl]; simp only [Fm.k, Fm.x]; rw [both_no (.inl hk), fput_ev]; rfl
theorem fd31k (h : op = 31) (hk : rdZ (rdZ rg a) 1 ≠ 0) : Fm.does ⟨rg, rm, pc, st, mq, nm⟩ nr op d a b n = ⟨fpuZ rg d (qQq (IntKind.wrap .i32 (IntKind.wrap .i32 (rdZ (rdZ rg a) 0) + n)) (qQq 1 0)), rm, IntKind.wrap .i64 (pc + 1), st, updZ mq nm (qQq pc (qQq (-1) (qQq 1 0))), nm + 1⟩ := by
 subst h; unfold Fm.does; rw [if_neg (by decide), if_pos rfl]; simp only [Fm.k, Fm.x]; rw [both_yes hk (by decide), fput_ev]; rfl
theorem fd32u (h : op = 32) (hk : rdZ (rdZ rg a) 1 = 0) : Fm.does ⟨rg, rm, pc, st, mq, nm⟩ nr op d a b n = ⟨fpuZ rg d (qQq 0 (qQq 0 0)), rm, IntKind.wrap .i64 (pc + 1), st, updZ mq nm (qQq pc (qQq (-1) (qQq 1 0))), nm + 1⟩ := by
 subst h; unfold Fm.does; rw [if_neg (by decide), if_neg (by decide), if_pos rfl]; simp only [Fm.k, Fm.x]; rw [both_no (.inl hk), fput_ev]; rfl
theorem fd32k (h : op = 32) (hw : IntKind.wrap .i32 n = n) (hk : rdZ (rdZ rg a) 1 ≠ 0) : Fm.does ⟨rg, rm, pc, st, mq, nm⟩ nr op d a b n = ⟨fpuZ rg d (qQq (BO.ev .or .i32 (IntKind.wrap .i32 (rdZ (rdZ rg a) 0)) n) (qQq 1 0)), rm, IntKind.wrap .i64 (pc + 1), st, updZ mq nm (qQq pc (qQq (-1) (qQq 1 0))), nm + 1⟩ := by
 subst h; unfold Fm.does; rw [if_neg (by decide), if_neg (by decide), if_pos rfl]; simp only [Fm.k, Fm.x, hw]; rw [both_yes hk (by decide), fput_ev]; rfl
theorem fd33 (h : op = 33) : Fm.does ⟨rg, rm, pc, st, mq, nm⟩ nr op d a b n = ⟨fpuZ rg d (qQq (IntKind.wrap .i32 (BO.ev .shl .u32 (IntKind.wrap .u32 n) 16)) (qQq 1 0)), rm, IntKind.wrap .i64 (pc + 1), st, updZ mq nm (qQq pc (qQq (-1) (qQq 1 0))), nm + 1⟩ := by
 subst h; unfold Fm.does; rw [if_neg (by decide), if_neg (by decide), if_neg (by decide), if_pos rfl, fput_ev]; rfl
theorem fdmem (h : op = 34 ∨ op = 35) : Fm.does ⟨rg, rm, pc, st, mq, nm⟩ nr op d a b n = Fm.mem ⟨rg, rm, pc, st, mq, nm⟩ nr op d (IntKind.wrap .i32 (IntKind.wrap .i32 (rdZ (rdZ rg a) 0) + n)) := by
 unfold Fm.does; rw [if_neg (by omega), if_neg (by omega), if_neg (by omega), if_neg (by omega), if_pos h]; rfl
theorem fmem_no {addr : Int} (h : addr < 0 ∨ nr ≤ addr) : Fm.mem ⟨rg, rm, pc, st, mq, nm⟩ nr op d addr = ⟨rg, rm, pc, 4, mq, nm⟩ := by unfold Fm.mem; rw [if_pos h]
theorem fmem_sw {addr cost : Int} (h0 : 0 ≤ addr) (h1 : addr < nr) (hop : op = 35) (hc : cost = if 1024 ≤ addr then 3 else 2) : Fm.mem ⟨rg, rm, pc, st, mq, nm⟩ nr op d addr =
  ⟨rg, updZ rm addr (qQq (IntKind.wrap .i32 (rdZ (rdZ rg d) 0)) (qQq (rdZ (rdZ rg d) 1) 0)), IntKind.wrap .i64 (pc + 1), st, updZ mq nm (qQq pc (qQq addr (qQq cost 0))), nm + 1⟩ := by
 subst hc; unfold Fm.mem Fm.memo; rw [if_neg (by omega), if_pos hop]; rfl
theorem fmem_lw {addr cost : Int} (h0 : 0 ≤ addr) (h1 : addr < nr) (hop : op = 34) (hc : cost = if 1024 ≤ addr then 3 else 2) : Fm.mem ⟨rg, rm, pc, st, mq, nm⟩ nr op d addr =
  ⟨fpuZ rg d (qQq (IntKind.wrap .i32 (rdZ (rdZ rm addr) 0)) (qQq (rdZ (rdZ rm addr) 1) 0)), rm, IntKind.wrap .i64 (pc + 1), st, updZ mq nm (qQq pc (qQq addr (qQq cost 0))), nm + 1⟩ := by
 subst hc; unfold Fm.mem Fm.memo; rw [if_neg (by omega), if_neg (by omega), fput_ev]; rfl
theorem fbr_y {c : Prop} [Decidable c] (h : c) : Fm.branch ⟨rg, rm, pc, st, mq, nm⟩ n c = ⟨rg, rm, n, st, updZ mq nm (qQq pc (qQq (-1) (qQq 3 0))), nm + 1⟩ := by unfold Fm.branch; rw [if_pos h]; rfl
theorem fbr_n {c : Prop} [Decidable c] (h : ¬ c) : Fm.branch ⟨rg, rm, pc, st, mq, nm⟩ n c = ⟨rg, rm, IntKind.wrap .i64 (pc + 1), st, updZ mq nm (qQq pc (qQq (-1) (qQq 1 0))), nm + 1⟩ := by unfold Fm.branch; rw [if_neg h]; rfl
theorem fd36 (h : op = 36) : Fm.does ⟨rg, rm, pc, st, mq, nm⟩ nr op d a b n = Fm.branch ⟨rg, rm, pc, st, mq, nm⟩ n (IntKind.wrap .i32 (rdZ (rdZ rg d) 0) = IntKind.wrap .i32 (rdZ (rdZ rg a) 0)) := by
 subst h; unfold Fm.does; rw [if_neg (by decide), if_neg (by decide), if_neg (by decide), if_neg (by decide), if_neg (by decide), if_pos rfl]; rfl
theorem fd37 (h : op = 37) : Fm.does ⟨rg, rm, pc, st, mq, nm⟩ nr op d a b n = Fm.branch ⟨rg, rm, pc, st, mq, nm⟩ n (IntKind.wrap .i32 (rdZ (rdZ rg d) 0) ≠ IntKind.wrap .i32 (rdZ (rdZ rg a) 0)) := by
 subst h; unfold Fm.does; rw [if_neg (by decide), if_neg (by decide), if_neg (by decide), if_neg (by decide), if_neg (by decide), if_neg (by decide), if_pos rfl]; rfl
theorem fd38 (h : op = 38) : Fm.does ⟨rg, rm, pc, st, mq, nm⟩ nr op d a b n = Fm.branch ⟨rg, rm, pc, st, mq, nm⟩ n (IntKind.wrap .i32 (rdZ (rdZ rg d) 0) < IntKind.wrap .i32 (rdZ (rdZ rg a) 0)) := by
 subst h; unfold Fm.does; rw [if_neg (by decide), if_neg (by decide), if_neg (by decide), if_neg (by decide), if_neg (by decide), if_neg (by decide), if_neg (by decide), if_pos rfl]; rfl
theorem fd40 (h : op = 40) : Fm.does ⟨rg, rm, pc, st, mq, nm⟩ nr op d a b n = ⟨fpuZ rg d (qQq (IntKind.wrap .i32 (pc + 1)) (qQq 1 0)), rm, n, st, updZ mq nm (qQq pc (qQq (-1) (qQq 3 0))), nm + 1⟩ := by
 subst h; unfold Fm.does; rw [if_neg (by decide), if_neg (by decide), if_neg (by decide), if_neg (by decide), if_neg (by decide), if_neg (by decide), if_neg (by decide), if_neg (by decide), if_pos rfl, fput_ev]; rfl
theorem fd39 (h : op = 39) : Fm.does ⟨rg, rm, pc, st, mq, nm⟩ nr op d a b n = ⟨rg, rm, n, st, updZ mq nm (qQq pc (qQq (-1) (qQq 3 0))), nm + 1⟩ := by
 subst h; unfold Fm.does; rw [if_neg (by decide), if_neg (by decide), if_neg (by decide), if_neg (by decide), if_neg (by decide), if_neg (by decide), if_neg (by decide), if_neg (by decide), if_neg (by decide), if_pos rfl]; rfl
theorem fd41 (h : op = 41) : Fm.does ⟨rg, rm, pc, st, mq, nm⟩ nr op d a b n = ⟨rg, rm, IntKind.wrap .i32 (rdZ (rdZ rg a) 0), st, updZ mq nm (qQq pc (qQq (-1) (qQq 3 0))), nm + 1⟩ := by
 subst h; unfold Fm.does; rw [if_neg (by decide), if_neg (by decide), if_neg (by decide), if_neg (by decide), if_neg (by decide), if_neg (by decide), if_neg (by decide), if_neg (by decide), if_neg (by decide), if_neg (by decide), if_pos rfl]; rfl
theorem fd43 (h : op = 43) : Fm.does ⟨rg, rm, pc, st, mq, nm⟩ nr op d a b n = ⟨rg, rm, pc, 1, updZ mq nm (qQq pc (qQq (-1) (qQq 1 0))), nm + 1⟩ := by
 subst h; unfold Fm.does; rw [if_neg (by decide), if_neg (by decide), if_neg (by decide), if_neg (by decide), if_neg (by decide), if_neg (by decide), if_neg (by decide), if_neg (by decide), if_neg (by decide), if_neg (by decide), if_neg (by decide), if_pos rfl]; rfl
theorem fd42 (h : op = 42) : Fm.does ⟨rg, rm, pc, st, mq, nm⟩ nr op d a b n = ⟨rg, rm, IntKind.wrap .i64 (pc + 1), st, updZ mq nm (qQq pc (qQq (-1) (qQq 1 0))), nm + 1⟩ := by
 subst h; unfold Fm.does; rw [if_neg (by decide), if_neg (by decide), if_neg (by decide), if_neg (by decide), if_neg (by decide), if_neg (by decide), if_neg (by decide), if_neg (by decide), if_neg (by decide), if_neg (by decide), if_neg (by decide), if_neg (by decide)]; rfl
theorem one_iff (p : Prop) [Decidable p] : (if p then (1 : Int) else 0) ≠ 0 ↔ p := by by_cases h : p <;> simp [h]
theorem does_rm (m : Fm) (h : op ≤ 30 ∨ 36 ≤ op) : (m.does nr op d a b n).rm = m.rm := by
 have hp : ∀ (m : Fm) (i w : Int), (m.put i w).rm = m.rm := fun m i w => by unfold Fm.put; split <;> rfl
 have hb : ∀ (n : Int) (p : Prop) [Decidable p], (m.branch n p).rm = m.rm := fun n p _ => by unfold Fm.branch; split <;> rfl
 have hi : ∀ {c : Prop} [Decidable c] {A B : Fm}, (c → A.rm = m.rm) → (¬ c → B.rm = m.rm) → (if c then A else B).rm = m.rm := fun {c} _ {A B} h1 h2 => by
  by_cases g : c
  ·rw [if_pos g]; exact h1 g
  ·rw [if_neg g]; exact h2 g
 unfold Fm.does
 refine hi (fun _ => hi (fun _ => rfl) fun _ => hp _ _ _) fun g => ?_
 refine hi (fun _ => hp _ _ _) fun _ => ?_
 refine hi (fun _ => hp _ _ _) fun _ => ?_
 refine hi (fun _ => hp _ _ _) fun _ => ?_
 refine hi (fun g => by omega) fun _ => ?_
 refine hi (fun _ => hb _ _) fun _ => ?_
 refine hi (fun _ => hb _ _) fun _ => ?_
 refine hi (fun _ => hb _ _) fun _ => ?_
 refine hi (fun _ => hp _ _ _) fun _ => ?_
 refine hi (fun _ => rfl) fun _ => ?_
 refine hi (fun _ => rfl) fun _ => ?_
 exact hi (fun _ => rfl) fun _ => rfl
theorem fdo_rm (h : op ≤ 30 ∨ 36 ≤ op) : rdZ (fdoZ op d (qQq a (qQq b (qQq n (qQq nr (qQq rg (qQq rm (qQq pc (qQq st (qQq mq (qQq nm 0))))))))))) 1 = rm := by
 rw [fdo_ev, (fcode_rd _).2.1, does_rm _ h]
open Classical in
theorem fto_ev : ftoZ op d (qQq a (qQq b (qQq rg 0))) ≠ 0 ↔ (if op = 22 ∨ op = 23 then rdZ (rdZ rg a) 1 ≠ 0 ∧ rdZ (rdZ rg b) 1 ≠ 0 else if op = 36 ∨ op = 37 ∨ op = 38 then rdZ (rdZ rg d) 1 ≠ 0 ∧ rdZ (rdZ rg a) 1 ≠ 0 else rdZ (rdZ rg a) 1 ≠ 0 ∨ ¬ lkP op) := by
 obtain ⟨r0, r1, r2⟩ := rd3 a b rg
 unfold ftoZ
 rw [r0, r1, r2]
 refine (one_iff _).trans ?_
 unfold Fm.told Fm.k
 exact Iff.rfl
end
end Go.Eng
end
