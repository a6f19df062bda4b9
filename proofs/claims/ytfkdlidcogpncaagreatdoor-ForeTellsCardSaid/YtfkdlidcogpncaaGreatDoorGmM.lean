/-
  Parts of the engine, a program's symbolic run, proved sound; and of plain laws.
-/
import Derived.Test.YtfkdlidcogpncaaGreatDoorGmK
import Derived.Test.YtfkdlidcogpncaaGreatDoorGmD
set_option linter.unusedVariables false
set_option linter.unusedSimpArgs false

/-!  -/
noncomputable section
namespace Go.Eng
theorem rcode_rd (m : Rm) : rdZ m.code 0 = m.rx ∧ rdZ m.code 1 = m.rk ∧ rdZ m.code 2 = m.rm ∧ rdZ m.code 3 = m.hv ∧ rdZ m.code 4 = m.pc ∧ rdZ m.code 5 = m.st ∧ rdZ m.code 6 = m.mq ∧ rdZ m.code 7 = m.nm := by
 unfold Rm.code
 simp only [rdZ_LZ]
 exact ⟨rfl, rfl, rfl, rfl, rfl, rfl, rfl, rfl⟩
section
variable {op d a b n nr rx rk rm hv pc st mq nm A B C D p s Q N : Int}
theorem rdo_ev : rdoZ op d (qQq a (qQq b (qQq n (qQq nr (qQq rx (qQq rk (qQq rm (qQq hv (qQq pc (qQq st (qQq mq (qQq nm 0)))))))))))) = (Rm.does ⟨rx, rk, rm, hv, pc, st, mq, nm⟩ nr op d a b n).code := by
 have h := qJz [a, b, n, nr, rx, rk, rm, hv, pc, st, mq, nm]
 unfold rdoZ
 generalize hz : (qQq a (qQq b (qQq n (qQq nr (qQq rx (qQq rk (qQq rm (qQq hv (qQq pc (qQq st (qQq mq (qQq nm 0)))))))))))) = z
 have hc : chn [a, b, n, nr, rx, rk, rm, hv, pc, st, mq, nm] = z := by rw [← hz]; rfl
 rw [hc] at h
 have e0 : rdZ z 0 = a := h 0
 have e1 : rdZ z 1 = b := h 1
 have e2 : rdZ z 2 = n := h 2
 have e3 : rdZ z 3 = nr := h 3
 have e4 : rdZ z 4 = rx := h 4
 have e5 : rdZ z 5 = rk := h 5
 have e6 : rdZ z 6 = rm := h 6
 have e7 : rdZ z 7 = hv := h 7
 have e8 : rdZ z 8 = pc := h 8
 have e9 : rdZ z 9 = st := h 9
 have e10 : rdZ z 10 = mq := h 10
 have e11 : rdZ z 11 = nm := h 11
 rw [e0, e1, e2, e3, e4, e5, e6, e7, e8, e9, e10, e11]
theorem r_leafm (hX : Rm.does ⟨rx, rk, rm, hv, pc, st, mq, nm⟩ nr op d a b n = ⟨A, B, C, D, p, s, Q, N⟩) (hp : I64 p) (hs : I64 s) (hN : I64 N) :
  let Z := rdoZ op d (qQq a (qQq b (qQq n (qQq nr (qQq rx (qQq rk (qQq rm (qQq hv (qQq pc (qQq st (qQq mq (qQq nm 0))))))))))))
  qQw [.int .i32] A (rdZ Z 0) 32 ∧ qQw [.bool] B (rdZ Z 1) 32 ∧ qQw [.int .i32] C (rdZ Z 2) nr ∧ qQw [.bool] D (rdZ Z 3) nr ∧ p = IntKind.wrap .i64 (rdZ Z 4) ∧ s = IntKind.wrap .i64 (rdZ Z 5) ∧ N = IntKind.wrap .i64 (rdZ Z 7) ∧ qQw [.int .i64, .int .i64, .int .i64] Q (rdZ Z 6) (IntKind.wrap .i64 (rdZ Z 7)) := by
 intro Z
 have hZ : Z = Rm.code ⟨A, B, C, D, p, s, Q, N⟩ := by rw [← hX]; exact rdo_ev
 obtain ⟨r0, r1, r2, r3, r4, r5, r6, r7⟩ := rcode_rd ⟨A, B, C, D, p, s, Q, N⟩
 rw [hZ, r0, r1, r2, r3, r4, r5, r6, r7]
 exact ⟨qQx _ _ _, qQx _ _ _, qQx _ _ _, qQx _ _ _, (w64 hp.1 hp.2).symm, (w64 hs.1 hs.2).symm, (w64 hN.1 hN.2).symm, qQx _ _ _⟩
theorem r_leaf (hX : Rm.does ⟨rx, rk, rm, hv, pc, st, mq, nm⟩ nr op d a b n = ⟨A, B, C, D, p, s, Q, N⟩) (hp : I64 p) (hs : I64 s) (hN : I64 N) :
  let Z := rdoZ op d (qQq a (qQq b (qQq n (qQq nr (qQq rx (qQq rk (qQq rm (qQq hv (qQq pc (qQq st (qQq mq (qQq nm 0))))))))))))
  qQw [.int .i32] A (rdZ Z 0) 32 ∧ qQw [.bool] B (rdZ Z 1) 32 ∧ p = IntKind.wrap .i64 (rdZ Z 4) ∧ s = IntKind.wrap .i64 (rdZ Z 5) ∧ N = IntKind.wrap .i64 (rdZ Z 7) ∧ qQw [.int .i64, .int .i64, .int .i64] Q (rdZ Z 6) (IntKind.wrap .i64 (rdZ Z 7)) :=
 have h := r_leafm hX hp hs hN
 ⟨h.1, h.2.1, h.2.2.2.2⟩
theorem rsx_ev (rx i x k : Int) : rsxZ rx i (qQq x (qQq k 0)) = rsxV rx i x k := by
 have h1 : rdZ (qQq x (qQq k 0)) 1 = k := by rw [qQe _ _ (by omega)]; exact qQy _ _
 unfold rsxZ
 rw [qQy, h1]
theorem rdo_reck (h : op ≤ 30) : Rm.does ⟨rx, rk, rm, hv, pc, st, mq, nm⟩ nr op d a b n = Rm.reck ⟨rx, rk, rm, hv, pc, st, mq, nm⟩ op d a b := by unfold Rm.does; rw [if_pos h]
theorem rreck_no (h : aluK op (IntKind.wrap .i32 (rdZ rx a)) (IntKind.wrap .i32 (rdZ rx b)) = 0) : Rm.reck ⟨rx, rk, rm, hv, pc, st, mq, nm⟩ op d a b = ⟨rx, rk, rm, hv, pc, 5, mq, nm⟩ := by unfold Rm.reck; exact if_pos h
theorem rreck_yes {k : Int} (h : ¬ aluK op (IntKind.wrap .i32 (rdZ rx a)) (IntKind.wrap .i32 (rdZ rx b)) = 0) (hk : k = if rdZ rk a ≠ 0 then (if op ≤ 23 then rdZ rk b else 1) else 0) :
  Rm.reck ⟨rx, rk, rm, hv, pc, st, mq, nm⟩ op d a b = ⟨rsxZ rx d (qQq (aluV op (IntKind.wrap .i32 (rdZ rx a)) (IntKind.wrap .i32 (rdZ rx b))) (qQq k 0)), rskZ rk d k, rm, hv, IntKind.wrap .i64 (pc + 1), st, updZ mq nm (qQq pc (qQq (-1) (qQq (aluC op (IntKind.wrap .i32 (rdZ rx a))) 0))), nm + 1⟩ := by
 unfold Rm.reck
 rw [rsx_ev, hk]
 exact if_neg h
theorem rdmem (h : op = 34 ∨ op = 35) : Rm.does ⟨rx, rk, rm, hv, pc, st, mq, nm⟩ nr op d a b n = Rm.mem ⟨rx, rk, rm, hv, pc, st, mq, nm⟩ nr op d (IntKind.wrap .i32 (IntKind.wrap .i32 (rdZ rx a) + n)) := by
 unfold Rm.does; rw [if_neg (by omega), if_neg (by omega), if_neg (by omega), if_neg (by omega), if_pos h]; rfl
theorem rmem_no {addr : Int} (h : addr < 0 ∨ nr ≤ addr) : Rm.mem ⟨rx, rk, rm, hv, pc, st, mq, nm⟩ nr op d addr = ⟨rx, rk, rm, hv, pc, 4, mq, nm⟩ := by unfold Rm.mem; rw [if_pos h]
theorem rmem_sw {addr cost : Int} (h0 : 0 ≤ addr) (h1 : addr < nr) (hop : op = 35) (hc : cost = if 1024 ≤ addr then 3 else 2) : Rm.mem ⟨rx, rk, rm, hv, pc, st, mq, nm⟩ nr op d addr =
  ⟨rx, rk, updZ rm addr (IntKind.wrap .i32 (rdZ rx d)), updZ hv addr (rdZ rk d), IntKind.wrap .i64 (pc + 1), st, updZ mq nm (qQq pc (qQq addr (qQq cost 0))), nm + 1⟩ := by
 subst hc; unfold Rm.mem Rm.memo; rw [if_neg (by omega), if_pos hop]; rfl
theorem rmem_lw {addr cost : Int} (h0 : 0 ≤ addr) (h1 : addr < nr) (hop : op = 34) (hc : cost = if 1024 ≤ addr then 3 else 2) : Rm.mem ⟨rx, rk, rm, hv, pc, st, mq, nm⟩ nr op d addr =
  ⟨rsxZ rx d (qQq (IntKind.wrap .i32 (rdZ rm addr)) (qQq (rdZ hv addr) 0)), rskZ rk d (rdZ hv addr), rm, hv, IntKind.wrap .i64 (pc + 1), st, updZ mq nm (qQq pc (qQq addr (qQq cost 0))), nm + 1⟩ := by
 subst hc; unfold Rm.mem Rm.memo; rw [if_neg (by omega), if_neg (by omega), rsx_ev]; rfl
end
def Zp (u x k : Int) : Prop := IntKind.wrap .i32 (rdZ u 0) = IntKind.wrap .i32 x ∧ (rdZ u 1 ≠ 0 ↔ k ≠ 0) ∧ (k = 0 → IntKind.wrap .i32 x = 0)
def Zr (n g x k : Int) : Prop := ∀ i : Int, 0 ≤ i → i < n → Zp (rdZ g i) (rdZ x i) (rdZ k i)
structure Zm (nr : Int) (F : Fm) (R : Rm) : Prop where
 rg : Zr 32 F.rg R.rx R.rk
 rm : Zr nr F.rm R.rm R.hv
 pc : R.pc = F.pc
 st : R.st = F.st
 mq : R.mq = F.mq
 nm : R.nm = F.nm
theorem zr_upd {n g x k i u v w : Int} (h : Zr n g x k) (h0 : 0 ≤ i) (hp : Zp u v w) : Zr n (updZ g i u) (updZ x i v) (updZ k i w) := fun j j0 j1 => by
 rw [qZk, qZk, qZk]
 by_cases e : j.toNat = i.toNat
 ·rw [if_pos e, if_pos e, if_pos e]; exact hp
 ·rw [if_neg e, if_neg e, if_neg e]; exact h j j0 j1
theorem may_rd (x k : Int) : rdZ (mayZ x k) 0 = x ∧ rdZ (mayZ x k) 1 = k := by
 unfold mayZ
 refine ⟨qQy _ _, ?_⟩
 rw [qQe _ _ (by omega)]; exact qQy _ _
theorem zp_may {x v k q : Int} (h : k ≠ 0 ↔ q ≠ 0) (hx : q ≠ 0 → IntKind.wrap .i32 x = IntKind.wrap .i32 v) (h0 : q = 0 → IntKind.wrap .i32 x = 0) : Zp (mayZ x k) (if q ≠ 0 then v else 0) q := by
 obtain ⟨r0, r1⟩ := may_rd x k
 unfold Zp
 rw [r0, r1]
 by_cases e : q ≠ 0
 ·rw [if_pos e]; exact ⟨hx e, h, fun g => absurd g e⟩
 ·have e' : q = 0 := by omega
  rw [if_neg e]; exact ⟨by rw [h0 e']; decide, h, fun _ => by decide⟩
section
variable {nr : Int} {F : Fm} {R : Rm}
theorem zm_set (z : Zm nr F R) {i x v k q : Int} (i0 : 0 ≤ i) (h : k ≠ 0 ↔ q ≠ 0) (hx : q ≠ 0 → IntKind.wrap .i32 x = IntKind.wrap .i32 v) (h0 : q = 0 → IntKind.wrap .i32 x = 0) : Zm nr (F.put i (mayZ x k)) (R.set i v q) := by
 unfold Fm.put Rm.set rsxV rskZ
 by_cases e : i = 0
 ·rw [if_neg (by omega), if_pos e, if_pos e]; exact ⟨z.rg, z.rm, z.pc, z.st, z.mq, z.nm⟩
 ·rw [if_pos e, if_neg e, if_neg e]
  exact ⟨zr_upd z.rg i0 (zp_may h hx h0), z.rm, z.pc, z.st, z.mq, z.nm⟩
theorem zm_goes (z : Zm nr F R) (next addr cost : Int) : Zm nr (F.goes next addr cost) (R.goes next addr cost) := by
 refine ⟨z.rg, z.rm, rfl, z.st, ?_, ?_⟩
 ·show updZ R.mq R.nm (qQq R.pc _) = updZ F.mq F.nm (qQq F.pc _)
  rw [z.mq, z.nm, z.pc]
 ·show R.nm + 1 = F.nm + 1
  rw [z.nm]
theorem zm_on (z : Zm nr F R) (cost : Int) : Zm nr (F.on cost) (R.on cost) := by
 unfold Fm.on Rm.on
 rw [z.pc]; exact zm_goes z _ _ _
theorem zm_st (z : Zm nr F R) (s : Int) : Zm nr { F with st := s } { R with st := s } := ⟨z.rg, z.rm, z.pc, rfl, z.mq, z.nm⟩
theorem qXr {p q : Prop} [Decidable p] [Decidable q] {A B : Fm} {C D : Rm} (h : p ↔ q) (h1 : p → Zm nr A C) (h2 : ¬ p → Zm nr B D) : Zm nr (if p then A else B) (if q then C else D) := by
 by_cases e : p
 ·rw [if_pos e, if_pos (h.1 e)]; exact h1 e
 ·rw [if_neg e, if_neg (fun g => e (h.2 g))]; exact h2 e
theorem zm_x (z : Zm nr F R) {i : Int} (i0 : 0 ≤ i) (i1 : i < 32) : R.x i = F.x i ∧ (F.k i ≠ 0 ↔ R.k i ≠ 0) ∧ (R.k i = 0 → F.x i = 0) := by
 obtain ⟨h1, h2, h3⟩ := z.rg i i0 i1
 exact ⟨h1.symm, h2, fun e => by have := h3 e; rw [← h1] at this; exact this⟩
theorem aluK_iff {op a b : Int} (h1 : 1 ≤ op) (h2 : op ≤ 30) : aluK op a b = 0 ↔ (op = 22 ∨ op = 23) ∧ b = 0 := by
 unfold aluK
 by_cases h : aluP op b
 ·rw [if_pos h]; exact ⟨fun g => absurd g (by decide), fun g => absurd g h.2.2⟩
 ·rw [if_neg h]; exact ⟨fun _ => Classical.byContradiction fun g => h ⟨h1, h2, g⟩, fun _ => rfl⟩
theorem aluV_b {op a b c : Int} (h : 24 ≤ op) (h2 : op ≤ 30) : aluV op a b = aluV op a c := by
 have p : ∀ x, aluP op x := fun x => by unfold aluP; omega
 unfold aluV
 rw [if_pos (p b), if_pos (p c)]
 unfold aluX
 simp only [if_neg (show ¬ op = 1 by omega), if_neg (show ¬ op = 2 by omega), if_neg (show ¬ op = 3 by omega), if_neg (show ¬ op = 4 by omega), if_neg (show ¬ op = 5 by omega), if_neg (show ¬ op = 6 by omega), if_neg (show ¬ op = 7 by omega), if_neg (show ¬ op = 8 by omega), if_neg (show ¬ op = 9 by omega), if_neg (show ¬ op = 10 by omega), if_neg (show ¬ op = 11 by omega), if_neg (show ¬ op = 12 by omega), if_neg (show ¬ op = 13 by omega), if_neg (show ¬ op = 14 by omega), if_neg (show ¬ op = 15 by omega), if_neg (show ¬ op = 16 by omega), if_neg (show ¬ op = 17 by omega), if_neg (show ¬ op = 18 by omega), if_neg (show ¬ op = 19 by omega), if_neg (show ¬ op = 20 by omega), if_neg (show ¬ op = 21 by omega), if_neg (show ¬ op = 22 by omega), if_neg (show ¬ op = 23 by omega)]
theorem both_may (p q v : Int) : both p q v = if p ≠ 0 ∧ q ≠ 0 then mayZ v 1 else mayZ 0 0 := rfl
theorem zm_both (z : Zm nr F R) {i p q v v' K : Int} (i0 : 0 ≤ i) (h : (p ≠ 0 ∧ q ≠ 0) ↔ K ≠ 0) (hv : K ≠ 0 → IntKind.wrap .i32 v = IntKind.wrap .i32 v') : Zm nr (F.put i (both p q v)) (R.set i v' K) := by
 rw [both_may]
 by_cases e : p ≠ 0 ∧ q ≠ 0
 ·rw [if_pos e]
  have hK := h.1 e
  exact zm_set z i0 ⟨fun _ => hK, fun _ => by decide⟩ hv fun g => absurd g hK
 ·rw [if_neg e]
  have hK : ¬ K ≠ 0 := fun g => e (h.2 g)
  exact zm_set z i0 ⟨fun g => absurd rfl g, fun g => absurd g hK⟩ (fun g => absurd g hK) fun _ => by decide
theorem zm_reck (z : Zm nr F R) {op d a b : Int} (o1 : 1 ≤ op) (o2 : op ≤ 30) (d0 : 0 ≤ d) (a0 : 0 ≤ a) (a1 : a < 32) (b0 : 0 ≤ b) (b1 : b < 32) : Zm nr (F.reck op d a (if op ≤ 23 then b else a)) (R.reck op d a b) := by
 obtain ⟨xa, ka, za⟩ := zm_x z a0 a1
 obtain ⟨xb, kb, zb⟩ := zm_x z b0 b1
 unfold Fm.reck Rm.reck
 rw [xa, xb]
 by_cases h : op ≤ 23
 ·rw [if_pos h]
  refine qXr (aluK_iff o1 o2).symm (fun _ => zm_st z 5) fun _ => zm_on (zm_both z d0 ?_ fun _ => rfl) _
  by_cases e : R.k a ≠ 0
  ·rw [if_pos e, if_pos h]; exact ⟨fun g => kb.1 g.2, fun g => ⟨ka.2 e, kb.2 g⟩⟩
  ·rw [if_neg e]; exact ⟨fun g => absurd (ka.1 g.1) e, fun g => absurd rfl g⟩
 ·rw [if_neg h]
  have n1 : ¬ ((op = 22 ∨ op = 23) ∧ F.x a = 0) := by omega
  have n2 : ¬ aluK op (F.x a) (F.x b) = 0 := fun e => by have := (aluK_iff o1 o2).1 e; omega
  rw [if_neg n1, if_neg n2]
  refine zm_on (zm_both z d0 ?_ fun _ => by rw [aluV_b (b := F.x a) (c := F.x b) (by omega) o2]) _
  by_cases e : R.k a ≠ 0
  ·rw [if_pos e, if_neg h]; exact ⟨fun _ => by decide, fun _ => ⟨ka.2 e, ka.2 e⟩⟩
  ·rw [if_neg e]; exact ⟨fun g => absurd (ka.1 g.1) e, fun g => absurd rfl g⟩
theorem aluV_or {x n : Int} : aluV 6 x n = IntKind.wrap .i32 (BO.ev .or .i32 x n) := by
 have p : aluP 6 n := by unfold aluP; omega
 unfold aluV aluX; rw [if_pos p]; rfl
theorem lui_mul {n : Int} : IntKind.wrap .i32 (BO.ev .shl .u32 (IntKind.wrap .u32 n) 16) = IntKind.wrap .i32 (n * 65536) := by
 show IntKind.wrap .i32 (IntKind.wrap .u32 (IntKind.wrap .u32 n * 65536)) = _
 rw [wu32, wu32, wi_mod]
 refine wi_cong ?_
 omega
theorem zm_mem (z : Zm nr F R) {op d addr : Int} (d0 : 0 ≤ d) (d1 : d < 32) : Zm nr (F.mem nr op d addr) (R.mem nr op d addr) := by
 obtain ⟨xd, kd, zd⟩ := zm_x z d0 d1
 unfold Fm.mem Rm.mem
 by_cases h : addr < 0 ∨ nr ≤ addr
 ·rw [if_pos h, if_pos h]; exact zm_st z 4
 rw [if_neg h, if_neg h]
 unfold Fm.memo Rm.memo
 rw [z.pc]
 refine qXr Iff.rfl (fun _ => zm_goes ?_ _ _ _) fun _ => zm_goes ?_ _ _ _
 ·refine ⟨z.rg, zr_upd z.rm (by omega) ?_, rfl, z.st, z.mq, z.nm⟩
  obtain ⟨r0, r1⟩ := may_rd (F.x d) (F.k d)
  unfold Zp
  rw [r0, r1, xd]
  refine ⟨rfl, kd, fun e => ?_⟩
  rw [zd e]; decide
 ·obtain ⟨h1, h2, h3⟩ := z.rm addr (by omega) (by omega)
  refine zm_set z d0 h2 (fun _ => by rw [h1]) fun e => ?_
  rw [h1, h3 e]; decide
theorem zm_branch (z : Zm nr F R) (n : Int) {p q : Prop} [Decidable p] [Decidable q] (h : p ↔ q) : Zm nr (F.branch n p) (R.branch n q) := qXr h (fun _ => zm_goes z _ _ _) fun _ => zm_on z _
theorem zm_does (z : Zm nr F R) {op d a b n : Int} (o1 : 1 ≤ op) (d0 : 0 ≤ d) (d1 : d < 32) (a0 : 0 ≤ a) (a1 : a < 32) (b0 : 0 ≤ b) (b1 : b < 32) (n0 : -32768 ≤ n) (n1 : n ≤ 65535) : Zm nr (F.does nr op d a b n) (R.does nr op d a b n) := by
 obtain ⟨xa, ka, za⟩ := zm_x z a0 a1
 obtain ⟨xd, kd, zd⟩ := zm_x z d0 d1
 have hw : IntKind.wrap .i32 n = n := wi32 (by omega) (by omega)
 have one : (F.k a ≠ 0 ∧ (1 : Int) ≠ 0) ↔ R.k a ≠ 0 := ⟨fun g => ka.1 g.1, fun g => ⟨ka.2 g, by decide⟩⟩
 unfold Fm.does Rm.does
 rw [xa, xd, z.pc]
 refine qXr Iff.rfl (fun o2 => zm_reck z o1 o2 d0 a0 a1 b0 b1) fun _ => ?_
 refine qXr Iff.rfl (fun _ => zm_on (zm_both z d0 one fun _ => rfl) _) fun _ => ?_
 refine qXr Iff.rfl (fun _ => zm_on (zm_both z d0 one fun _ => by rw [aluV_or, hw, wi32_wrap]) _) fun _ => ?_
 refine qXr Iff.rfl (fun _ => zm_on (zm_set z d0 Iff.rfl (fun _ => by rw [lui_mul]) fun g => absurd g (by decide)) _) fun _ => ?_
 refine qXr Iff.rfl (fun _ => zm_mem z d0 d1) fun _ => ?_
 refine qXr Iff.rfl (fun _ => zm_branch z n Iff.rfl) fun _ => ?_
 refine qXr Iff.rfl (fun _ => zm_branch z n Iff.rfl) fun _ => ?_
 refine qXr Iff.rfl (fun _ => zm_branch z n Iff.rfl) fun _ => ?_
 refine qXr Iff.rfl (fun _ => zm_goes (zm_set z d0 Iff.rfl (fun _ => rfl) fun g => absurd g (by decide)) _ _ _) fun _ => ?_
 refine qXr Iff.rfl (fun _ => zm_goes z _ _ _) fun _ => ?_
 refine qXr Iff.rfl (fun _ => zm_goes z _ _ _) fun _ => ?_
 refine qXr Iff.rfl (fun _ => zm_st (zm_goes z _ _ _) 1) fun _ => zm_on z _
end
end Go.Eng
end
