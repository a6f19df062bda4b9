/-
  The law LineBack answers true at every input: the law is run by the engine (a symbolic run, proved sound), the tree of its answers, as a plain statement, is shown to hold. No condition.
-/
import Derived.Test.YtppiabilakeadabDoorKa
import Derived.Test.YtppiabilakeadabDoorKd
import Derived.Test.YtppiabilakeadabDoorKe
import Derived.Test.YtppiabilakeadabDoorGab
import Derived.Test.YtppiabilakeadabDoorGp4
import Derived.WalkKit
import Derived.ProofKit
import Derived.OpenShut
import Derived.LaidMore
import Derived.Stop.Joined
import Derived.SevenTiedAt
import Derived.SizedLaws
import Derived.Lay
import Derived.Test.YtppiabilakeadabDoorCards
import Derived.Test.YtppiabilakeadabDoorTie
import Derived.Shelf.Vars
import Derived.Stop.LaidErr
import Derived.LaidLaws
import Derived.Handed
namespace Go.Proofs.YtppiabilakeadabDoor.lineBack
open Go.ChangeShapes Go.WideShapes Go.ChangeAt Go.Eng Go.RowKit
set_option linter.unusedVariables false
set_option linter.unusedSimpArgs false
set_option maxRecDepth 100000
def rc : Rc := ⟨3, [some 5, none], [.int .i64, .int .i64, .int .i64, .int .i64, .int .i64, .row [.int .u8] 140737488355328], [], .one, [.bool (.c 1)]⟩
theorem okb : rc.ok = true := by kernel_rfl
noncomputable def us : SMs := fun Γ ins n => smH (cxG n Γ ins) [CLParse.rk.rh] (smR (cxG n Γ ins) [CAwake14.rc, CLText.rc, CLWords.rc])
theorem us_ok : SMsOk us := fun Γ ins n => qKx (tabsG n Γ ins) (rhs_cons CLParse.okh (rh_n CLParse.ok) (qJt _)) (qXt (tabsG n Γ ins) (qQc CAwake14.okb (rc_n CAwake14.ok) (qQc CLText.okb (rc_n CLText.ok) (qQc CLWords.okb (rc_n CLWords.ok) (qXz _)))))
def Q0 : E := (tC (.v 4) (.c 0))
def Q1 : E := (tC (.v 3) Q0)
def Q2 : E := (tC (.v 2) Q1)
def Q3 : E := (.f 142 (.v 0) (.v 1) Q2)
def Q4 : E := (tC (.c 0) (tC (.c 0) (.c 0)))
def Q5 : E := (.cl 1003 0 4611686018427387904)
def Q6 : E := (.f 21 (.v 1005) (.c 0) (.c 0))
def Q7 : E := (tC (.c 32) (.c 0))
def Q8 : E := (tC Q7 (.c 0))
def Q9 : E := (tC (.c 1) Q8)
def Q10 : E := (.f 21 Q9 (.c 0) (.c 0))
def Q11 : E := (.b .psub .i64 (.cl 1006 0 64) (.c 1))
def Q12 : E := (.w .u8 Q11)
def Q13 : E := (.f 137 Q3 (.c 0) (.c 0))
def Q14 : E := (tR Q13 Q5)
def Q15 : E := (.f 21 Q14 (.c 0) (.c 0))
def Q16 : E := (.f 23 (.v 1005) Q14 (.c 0))
def Q17 : E := (tp Q5 (.c 1))
def Q18 : E := (tl Q17 (.c 4611686018427387904))
def Q19 : E := (.f 21 (.v 1002) (.c 0) (.c 0))
def Q20 : E := (.f 23 (.v 1002) Q14 (.c 0))
def tree : TT (List E) :=
 (.new 1000 (.f 141 (.v 0) (.v 1) Q2) (.br (tn (.cl 1000 0 6) (.c 0)) (.br (.f 20 Q3 Q4 (.c 0)) (.leaf [(.c 1)]) (.leaf [(.c 0)])) (.br (tl (.f 21 Q3 (.c 0) (.c 0)) (.c 100000)) (.new 1001 (.f 136 Q3 (.c 0) (.c 0)) (.loop ⟨1002, [none, some (0, 4611686018427387904)], [Q4, (.c 0)], 1009⟩ (.br (tk Q5 (.cl 1001 0 140737488355328)) (.br (tk Q5 (.v 5)) (.loop ⟨1005, [none, some (0, 64)], [(.v 1002), (.b .rem .i64 (.w .u8 (tR (.v 6) Q5)) (.c 4))], 1008⟩ (.br (tk (.c 0) (.cl 1006 0 64)) (.br (tl (tp Q6 Q10) (.c 1000000)) (.br (tl Q12 (.c 64)) (.back [(.f 23 (.v 1005) Q9 (.c 0)), Q12]) (.bad 303)) (.bad 200)) (.exit 0)) (.br (tl (tp Q6 Q15) (.c 1000000)) (.br (tl (tp (.f 21 Q16 (.c 0) (.c 0)) Q10) (.c 1000000)) (.br Q18 (.back [(.f 23 Q16 Q9 (.c 0)), Q17]) (.bad 303)) (.bad 200)) (.bad 200)))
 (.br (tl (tp Q19 Q15) (.c 1000000)) (.br (tl (tp (.f 21 Q20 (.c 0) (.c 0)) Q10) (.c 1000000)) (.br Q18 (.back [(.f 23 Q20 Q9 (.c 0)), Q17]) (.bad 303)) (.bad 200)) (.bad 200))) (.exit 0)) (.br (tl Q19 (.c 100000)) (.br (.ite (te (.f 143 Q3 (.c 0) (.c 0)) (.v 0)) (.ite (te (.f 143 Q3 (.c 1) (.c 0)) (.v 1)) (.ite (te (.f 143 Q3 (.c 2) (.c 0)) (.v 2)) (.ite (te (.f 143 Q3 (.c 3) (.c 0)) (.v 3)) (te (.f 143 Q3 (.c 4) (.c 0)) (.v 4)) (.c 0)) (.c 0)) (.c 0)) (.c 0)) (.br (te (.f 144 Q3 (.c 0) (.c 0)) (.c 0)) (.br (.ite (te (.f 143 (.v 1002) (.c 0) (.c 0)) (.v 0)) (.ite (te (.f 143 (.v 1002) (.c 1) (.c 0)) (.v 1)) (.ite (te (.f 143 (.v 1002) (.c 2) (.c 0)) (.v 2)) (.ite (te (.f 143 (.v 1002) (.c 3) (.c 0)) (.v 3)) (te (.f 143 (.v 1002) (.c 4) (.c 0)) (.v 4)) (.c 0)) (.c 0)) (.c 0)) (.c 0)) (.br
 (te (.f 144 (.v 1002) (.c 0) (.c 0)) (.c 0)) (.leaf [(.c 1)]) (.leaf [(.c 0)])) (.leaf [(.c 0)])) (.leaf [(.c 0)])) (.leaf [(.c 0)])) (.bad 200)))) (.bad 200))))

noncomputable def sq0 (a b c d e : Int) : Int := (texZ a b (kZ c (kZ d (kZ e 0))))
def P (a b c d e f g h : Int) : Prop :=
 Pn (cckZ a b (kZ c (kZ d (kZ e 0)))) 0 6 fun y0 => (Pb (Pd y0 0) (Pb (seqZ (sq0 a b c d e) (kZ 0 (kZ 0 0))) Pt Pf) (Pm (PL (qQz (sq0 a b c d e)) 100000) (Pn (wrdN (sq0 a b c d e)) 0 140737488355328 fun y1 => ∃ I1002 : Int → Int → Nat → Prop, (∃ m, I1002 (kZ 0 (kZ 0 0)) 0 m) ∧ ∀ y2 y3 : Int, ∀ m2, (True ∧ (0 ≤ y3 ∧ y3 ≤ 4611686018427387904) ∧ True) → I1002 y2 y3 m2 → (Pb (Pl y3 y1) (Pb (Pl y3 f) (∃ I1005 : Int → Int → Nat → Prop, (∃ m, I1005 y2 (BO.ev .rem .i64 (IntKind.wrap .u8 (rdZ g y3)) 4) m) ∧ ∀ y5 y6 : Int, ∀ m5, (True ∧ (0 ≤ y6 ∧ y6 ≤ 64) ∧ True) → I1005 y5 y6 m5 → (Pb (Pl 0 y6) (Pm (PL ((qQz y5) + (qQz (kZ 1 (kZ (kZ 32 0) 0)))) 1000000) (Pm (PL (IntKind.wrap .u8 (y6 - 1)) 64) (∃ m', m' < m5 ∧ I1005 (catZ y5 (kZ 1 (kZ (kZ 32 0) 0))) (IntKind.wrap .u8 (y6 - 1)) m'))) (Pm (PL
 ((qQz y5) + (qQz (rdZ (wrdC (sq0 a b c d e)) y3))) 1000000) (Pm (PL ((qQz (catZ y5 (rdZ (wrdC (sq0 a b c d e)) y3))) + (qQz (kZ 1 (kZ (kZ 32 0) 0)))) 1000000) (Pm (PL (y3 + 1) 4611686018427387904) (∃ m', m' < m2 ∧ I1002 (catZ (catZ y5 (rdZ (wrdC (sq0 a b c d e)) y3)) (kZ 1 (kZ (kZ 32 0) 0))) (y3 + 1) m')))))) (Pm (PL ((qQz y2) + (qQz (rdZ (wrdC (sq0 a b c d e)) y3))) 1000000) (Pm (PL ((qQz (catZ y2 (rdZ (wrdC (sq0 a b c d e)) y3))) + (qQz (kZ 1 (kZ (kZ 32 0) 0)))) 1000000) (Pm (PL (y3 + 1) 4611686018427387904) (∃ m', m' < m2 ∧ I1002 (catZ (catZ y2 (rdZ (wrdC (sq0 a b c d e)) y3)) (kZ 1 (kZ (kZ 32 0) 0))) (y3 + 1) m'))))) (Pm (PL (qQz y2) 100000) (Pb (iteZ (Pe (parZ (sq0 a b c d e) 0) a) (iteZ (Pe (parZ (sq0 a b c d e) 1) b) (iteZ (Pe (parZ (sq0 a b c d e) 2) c) (iteZ
 (Pe (parZ (sq0 a b c d e) 3) d) (Pe (parZ (sq0 a b c d e) 4) e) 0) 0) 0) 0) (Pb (Pe (parE (sq0 a b c d e)) 0) (Pb (iteZ (Pe (parZ y2 0) a) (iteZ (Pe (parZ y2 1) b) (iteZ (Pe (parZ y2 2) c) (iteZ (Pe (parZ y2 3) d) (Pe (parZ y2 4) e) 0) 0) 0) 0) (Pb (Pe (parE y2) 0) Pt Pf) Pf) Pf) Pf))))))

set_option maxHeartbeats 4000000 in
theorem holds (p0_0 p0_1 p0_2 p0_3 p0_4 n1 c1 r1 : Int) (l_p0_0 : -9223372036854775808 ≤ p0_0) (u_p0_0 : p0_0 ≤ 9223372036854775807) (l_p0_1 : -9223372036854775808 ≤ p0_1) (u_p0_1 : p0_1 ≤ 9223372036854775807) (l_p0_2 : -9223372036854775808 ≤ p0_2) (u_p0_2 : p0_2 ≤ 9223372036854775807) (l_p0_3 : -9223372036854775808 ≤ p0_3) (u_p0_3 : p0_3 ≤ 9223372036854775807) (l_p0_4 : -9223372036854775808 ≤ p0_4) (u_p0_4 : p0_4 ≤ 9223372036854775807) (l_n1 : 0 ≤ n1) (u_n1 : n1 ≤ 140737488355328) (h_n1 : n1 ≤ r1) : P p0_0 p0_1 p0_2 p0_3 p0_4 n1 c1 r1 := by
  have hd : i64B p0_1 := ⟨l_p0_1, u_p0_1⟩
  have ha : i64B p0_2 := ⟨l_p0_2, u_p0_2⟩
  have hb : i64B p0_3 := ⟨l_p0_3, u_p0_3⟩
  have hn : i64B p0_4 := ⟨l_p0_4, u_p0_4⟩
  delta P sq0 Pb Pm Pn Pf Pt PL Pl Pe Pd kZ
  simp only [nrm, Int.reduceEq, Int.reduceNeg, reduceIte, cckZ_I, texZ_I]
  intro y hy _
  subst hy
  have hB := texI_byt (op := p0_0) hd ha hb hn
  refine ⟨fun hc => ?_, fun hc => ?_⟩
  · rw [if_neg hc] at hB
    have : seqZ (texI p0_0 p0_1 p0_2 p0_3 p0_4) (qQq 0 (qQq 0 0)) ≠ 0 := by rw [qKp, hB, bytL_e]
    first
      | exact this
      | exact ⟨fun _ => trivial, fun h => absurd h this⟩
  rw [if_pos hc] at hB
  have hl := qZb (texI p0_0 p0_1 p0_2 p0_3 p0_4)
  have hl2 := texL_len (op := p0_0) hd ha hb hn
  rw [hB] at hl
  obtain ⟨s, hs⟩ : ∃ s, s = texI p0_0 p0_1 p0_2 p0_3 p0_4 := ⟨_, rfl⟩
  rw [← hs] at hB hl ⊢
  have hW : wrdL s = wgo [] (texL p0_0 p0_1 p0_2 p0_3 p0_4) := by unfold wrdL; rw [hB]
  obtain ⟨e0, e1, e2, e3, e4, e5⟩ := par_back hc hd ha hb hn hW
  have hwn : wrdN s = ((wrdL s).length : Int) := rfl
  have hwl : (wrdL s).length ≤ 5 := by
    rw [hW, wgo_tex (cck_parts hc).1]
    have hf : ∀ t v, (fwL t v).length ≤ 1 := fun t v => by unfold fwL; split <;> simp
    have := hf (shpZ p0_0 0) p0_1
    have := hf (shpZ p0_0 1) p0_2
    have := hf (shpZ p0_0 2) p0_3
    have := hf (shpZ p0_0 3) p0_4
    simp only [List.length_cons, List.length_append]
    omega
  have hword : ∀ k : Nat, (h : k < (wrdL s).length) → bytL (rdZ (wrdC s) k) = (wrdL s)[k] ∧ qQz (rdZ (wrdC s) k) ≤ 2000 ∧ (∀ x ∈ (wrdL s)[k], x ≠ 32) ∧ (wrdL s)[k] ≠ [] := by
    intro k hk
    have h1 := qKd s k hk
    have h2 := List.getElem_mem hk
    have h3 := wgo_size _ _ _ h2
    have h4 := qZb (rdZ (wrdC s) k)
    have h5 := qZb s
    rw [h1] at h4
    simp only [List.length_nil] at h3
    exact ⟨h1, by omega, wgo_ok _ _ _ (by simp) h2, wgo_ne _ _ _ h2⟩
  have h1l := qXe (qQq (qQq 32 0) 0)
  have h1b : bytL (qQq 1 (qQq (qQq 32 0) 0)) = [32] := bytL_1 (by omega) (by omega)
  have hsp : ∀ t, qQz t ≤ 100000 → qQz (catZ t (qQq 1 (qQq (qQq 32 0) 0))) = qQz t + 1 ∧ bytL (catZ t (qQq 1 (qQq (qQq 32 0) 0))) = bytL t ++ [32] := by
    intro t ht
    have h := bytL_cat (a := t) (b := qQq 1 (qQq (qQq 32 0) 0)) (by rw [h1l]; unfold qQt; omega)
    rw [h1b] at h
    refine ⟨?_, h⟩
    have h2 := qZb (catZ t (qQq 1 (qQq (qQq 32 0) 0)))
    have h3 := qZb t
    rw [h, List.length_append] at h2
    simp at h2
    omega
  have hadd : ∀ (t : Int) (k : Int), 0 ≤ k → k < wrdN s → qQz t ≤ 50000 → EndB (bytL t) → wgo [] (bytL t) = (wrdL s).take k.toNat →
      qQz (rdZ (wrdC s) k) ≤ 2000 ∧ qQz (catZ t (rdZ (wrdC s) k)) = qQz t + qQz (rdZ (wrdC s) k) ∧ qQz (catZ (catZ t (rdZ (wrdC s) k)) (qQq 1 (qQq (qQq 32 0) 0))) = qQz t + qQz (rdZ (wrdC s) k) + 1 ∧
      EndB (bytL (catZ (catZ t (rdZ (wrdC s) k)) (qQq 1 (qQq (qQq 32 0) 0)))) ∧ wgo [] (bytL (catZ (catZ t (rdZ (wrdC s) k)) (qQq 1 (qQq (qQq 32 0) 0)))) = (wrdL s).take (k + 1).toNat := by
    intro t k h0 h1 ht hE hw
    obtain ⟨g1, g2, g3, g4⟩ := hword k.toNat (by omega)
    rw [Int.toNat_of_nonneg h0] at g1 g2
    have hcat := bytL_cat (a := t) (b := rdZ (wrdC s) k) (by unfold qQt; omega)
    have hcl : qQz (catZ t (rdZ (wrdC s) k)) = qQz t + qQz (rdZ (wrdC s) k) := by
      have h2 := qZb (catZ t (rdZ (wrdC s) k))
      have h3 := qZb t
      have h4 := qZb (rdZ (wrdC s) k)
      rw [hcat, List.length_append] at h2
      omega
    obtain ⟨q1, q2⟩ := hsp (catZ t (rdZ (wrdC s) k)) (by omega)
    refine ⟨g2, hcl, by omega, ?_, ?_⟩
    · rw [q2]; exact .inr ⟨_, rfl⟩
    · rw [q2, hcat, g1, wgo_more hE ⟨g3, g4⟩, hw, show (k + 1).toNat = k.toNat + 1 by omega, List.take_succ_eq_append_getElem (by omega)]
  refine ⟨fun _ => ?_, fun h => by omega⟩
  intro y1 hy1 _
  subst hy1
  refine ⟨fun t k m => 0 ≤ k ∧ k ≤ wrdN s ∧ EndB (bytL t) ∧ wgo [] (bytL t) = (wrdL s).take k.toNat ∧ qQz t ≤ 3000 * k ∧ m = (wrdN s - k).toNat, ⟨(wrdN s).toNat, ?_⟩, ?_⟩
  · refine ⟨Int.le_refl _, by omega, ?_, ?_, ?_, by omega⟩
    · rw [bytL_e]; exact .inl rfl
    · rw [bytL_e]; simp [wgo]
    · rw [slen_0]; omega
  intro t k m _ ⟨k0, k1, hE, hw, ht, hm⟩
  refine ⟨fun hk => ⟨fun hkn => ?_, fun hkn => ?_⟩, fun hk => ?_⟩
  · have hr : BO.ev .rem .i64 (IntKind.wrap .u8 (rdZ c1 k)) 4 = (IntKind.wrap .u8 (rdZ c1 k)) % 4 := rem_pos (u8_bd _).1
    refine ⟨fun t' n m' => 0 ≤ n ∧ n ≤ 4 ∧ EndB (bytL t') ∧ wgo [] (bytL t') = (wrdL s).take k.toNat ∧ qQz t' + n ≤ 3000 * k + 4 ∧ m' = n.toNat, ⟨((IntKind.wrap .u8 (rdZ c1 k)) % 4).toNat, ?_⟩, ?_⟩
    · rw [hr]
      exact ⟨by omega, by omega, hE, hw, by omega, rfl⟩
    intro t' n m' _ ⟨n0, n1, hE', hw', ht', hm'⟩
    refine ⟨fun hn0 => ?_, fun hn0 => ?_⟩
    · obtain ⟨q1, q2⟩ := hsp t' (by omega)
      have hw1 : IntKind.wrap .u8 (n - 1) = n - 1 := w8 (by omega) (by omega)
      rw [hw1, h1l]
      refine ⟨fun _ => ⟨fun _ => ⟨(n - 1).toNat, by omega, by omega, by omega, ?_, ?_, by omega, rfl⟩, fun h => by omega⟩, fun h => by omega⟩
      · rw [q2]; exact .inr ⟨_, rfl⟩
      · rw [q2, wgo_sp, hw']
    · obtain ⟨q1, q2, q3, q4, q5⟩ := hadd t' k k0 hk (by omega) hE' hw'
      rw [h1l, q2]
      refine ⟨fun _ => ⟨fun _ => ⟨fun _ => ⟨(wrdN s - (k + 1)).toNat, by omega, by omega, by omega, q4, q5, by omega, rfl⟩, fun h => by omega⟩, fun h => by omega⟩, fun h => by omega⟩
  · obtain ⟨q1, q2, q3, q4, q5⟩ := hadd t k k0 hk (by omega) hE hw
    rw [h1l, q2]
    refine ⟨fun _ => ⟨fun _ => ⟨fun _ => ⟨(wrdN s - (k + 1)).toNat, by omega, by omega, by omega, q4, q5, by omega, rfl⟩, fun h => by omega⟩, fun h => by omega⟩, fun h => by omega⟩
  · have hwt : wrdL t = wgo [] (texL p0_0 p0_1 p0_2 p0_3 p0_4) := by
      rw [← hW]
      show wgo [] (bytL t) = _
      rw [hw]
      exact List.take_of_length_le (by omega)
    obtain ⟨f0, f1, f2, f3, f4, f5⟩ := par_back hc hd ha hb hn hwt
    rw [e0, e1, e2, e3, e4, e5, f0, f1, f2, f3, f4, f5]
    refine ⟨fun _ => ?_, fun h => by omega⟩
    simp [qQk]

theorem plain (i v ro p) : statR 2 rc tree ⟨i, fN, v, ro, p⟩ = P (i 0) (i 1) (i 2) (i 3) (i 4) (i 5) (i 6) (i 7) := by kernel_rfl
theorem ran : ranR us (fun _ _ => .auto) rc 2 tree = true := by kernel_rfl
theorem fineT : fineR 2 rc tree = true := by kernel_rfl
theorem ok : RcOk (cxOf 2) rc := okR us_ok ran fineT okb fun i v ro p hρ hcap hpre => by rw [plain]; have q := hρ.hi; exact holds _ _ _ _ _ _ _ _ (q 0 _ rfl).1 (q 0 _ rfl).2 (q 1 _ rfl).1 (q 1 _ rfl).2 (q 2 _ rfl).1 (q 2 _ rfl).2 (q 3 _ rfl).1 (q 3 _ rfl).2 (q 4 _ rfl).1 (q 4 _ rfl).2 (q 5 _ rfl).1 (q 5 _ rfl).2 (hcap _ (mg 0 rfl))
theorem laidMet_tail {P : Program} {x : String × DataW Unit} {rest : List (String × DataW Unit)} {W : World} (h : laidMet P (x :: rest) W) : laidMet P rest W := by
  obtain ⟨ps, hl, hn, hf⟩ := h
  obtain ⟨n, d⟩ := x
  obtain ⟨g, t, cs, fuel, p, q, _, _, _, _, hq, rfl⟩ := hl
  exact ⟨q, hq, (List.nodup_append.1 hn).2.1, fun b off hm => hf b off (List.mem_append_right _ hm)⟩
theorem listE_LZ (P : Program) (l : List Int) (ro : List RO) : ∀ zs : List Int, (qZe (zs.map E.c)).ev (envR P l ro) = LZ zs
  | [] => rfl
  | z :: zs => by
    have h : (qZe ((z :: zs).map E.c)).ev (envR P l ro) = qQq z ((qZe (zs.map E.c)).ev (envR P l ro)) := rfl
    rw [h, listE_LZ P l ro zs]
    unfold qQq
    rw [ZL_LZ]
def tab0 : List Int := [1, 10, 100, 1000, 10000, 100000, 1000000, 10000000, 100000000, 1000000000, 10000000000, 100000000000, 1000000000000, 10000000000000, 100000000000000, 1000000000000000, 10000000000000000, 100000000000000000, 1000000000000000000, 10000000000000000000]
theorem tabG0 : Tryd.prog.globalNamed "internal/strconv.uint64pow10" = some 2 := by kernel_rfl
theorem tabW0 : ∀ z ∈ tab0, IntKind.wrap .u64 z = z := fun z hz => by
  have h := List.all_eq_true.1 (show tab0.all (fun z => decide (IntKind.wrap .u64 z = z)) = true by kernel_rfl) z hz
  simpa using h
theorem tabIs0 {W : World} (h : laidMetH Tryd.prog Rows.lineBackRow.laid W) : Lib.TabIs Tryd.prog W "internal/strconv.uint64pow10" .u64 tab0 := by
  rw [MakeChecks.laidMetH_plain _ _ _ (by kernel_rfl)] at h
  exact Lib.tabIs_of_head tabG0 (t := 109) (e := 85) (n := 20) (by kernel_rfl) (by kernel_rfl) (by kernel_rfl) (by kernel_rfl) (by kernel_rfl) (laidMet_tail (laidMet_tail h))
def tab1 : List Int := [0, 1, 28, 2, 29, 14, 24, 3, 30, 22, 20, 15, 25, 17, 4, 8, 31, 27, 13, 23, 21, 19, 16, 7, 26, 12, 18, 6, 11, 5, 10, 9]
theorem tabG1 : Tryd.prog.globalNamed "math/bits.deBruijn32tab" = some 8 := by kernel_rfl
theorem tabW1 : ∀ z ∈ tab1, IntKind.wrap .u8 z = z := fun z hz => by
  have h := List.all_eq_true.1 (show tab1.all (fun z => decide (IntKind.wrap .u8 z = z)) = true by kernel_rfl) z hz
  simpa using h
theorem tabIs1 {W : World} (h : laidMetH Tryd.prog Rows.lineBackRow.laid W) : Lib.TabIs Tryd.prog W "math/bits.deBruijn32tab" .u8 tab1 := by
  rw [MakeChecks.laidMetH_plain _ _ _ (by kernel_rfl)] at h
  exact Lib.tabIs_of_head tabG1 (t := 145) (e := 5) (n := 32) (by kernel_rfl) (by kernel_rfl) (by kernel_rfl) (by kernel_rfl) (by kernel_rfl) h
def tab2 : List Int := [0, 1, 56, 2, 57, 49, 28, 3, 61, 58, 42, 50, 38, 29, 17, 4, 62, 47, 59, 36, 45, 43, 51, 22, 53, 39, 33, 30, 24, 18, 12, 5, 63, 55, 48, 27, 60, 41, 37, 16, 46, 35, 44, 21, 52, 32, 23, 11, 54, 26, 40, 15, 34, 20, 31, 10, 25, 14, 19, 9, 13, 8, 7, 6]
theorem tabG2 : Tryd.prog.globalNamed "math/bits.deBruijn64tab" = some 9 := by kernel_rfl
theorem tabW2 : ∀ z ∈ tab2, IntKind.wrap .u8 z = z := fun z hz => by
  have h := List.all_eq_true.1 (show tab2.all (fun z => decide (IntKind.wrap .u8 z = z)) = true by kernel_rfl) z hz
  simpa using h
theorem tabIs2 {W : World} (h : laidMetH Tryd.prog Rows.lineBackRow.laid W) : Lib.TabIs Tryd.prog W "math/bits.deBruijn64tab" .u8 tab2 := by
  rw [MakeChecks.laidMetH_plain _ _ _ (by kernel_rfl)] at h
  exact Lib.tabIs_of_head tabG2 (t := 146) (e := 5) (n := 64) (by kernel_rfl) (by kernel_rfl) (by kernel_rfl) (by kernel_rfl) (by kernel_rfl) (laidMet_tail h)
def tab3 : List Int := [0, 0, 0, 0, 0, 0, 0, 0, 0, 1, 1, 1, 1, 1, 0, 0, 0, 0, 0, 0, 0, 0, 0, 0, 0, 0, 0, 0, 0, 0, 0, 0, 1, 0, 0, 0, 0, 0, 0, 0, 0, 0, 0, 0, 0, 0, 0, 0, 0, 0, 0, 0, 0, 0, 0, 0, 0, 0, 0, 0, 0, 0, 0, 0, 0, 0, 0, 0, 0, 0, 0, 0, 0, 0, 0, 0, 0, 0, 0, 0, 0, 0, 0, 0, 0, 0, 0, 0, 0, 0, 0, 0, 0, 0, 0, 0, 0, 0, 0, 0, 0, 0, 0, 0, 0, 0, 0, 0, 0, 0, 0, 0, 0, 0, 0, 0, 0, 0, 0, 0, 0, 0, 0, 0, 0, 0, 0, 0, 0, 0, 0, 0, 0, 0, 0, 0, 0, 0, 0, 0, 0, 0, 0, 0, 0, 0, 0, 0, 0, 0, 0, 0, 0, 0, 0, 0, 0, 0, 0, 0, 0, 0, 0, 0, 0, 0, 0, 0, 0, 0, 0, 0, 0, 0, 0, 0, 0, 0, 0, 0, 0, 0, 0, 0, 0, 0, 0, 0, 0, 0, 0, 0, 0, 0, 0, 0, 0, 0, 0, 0, 0, 0, 0, 0, 0, 0, 0, 0, 0, 0, 0, 0, 0, 0, 0, 0, 0, 0, 0, 0, 0, 0, 0, 0, 0, 0, 0, 0, 0, 0, 0, 0, 0, 0, 0, 0, 0, 0, 0, 0, 0, 0, 0, 0, 0, 0, 0, 0, 0, 0, 0, 0, 0, 0, 0, 0]
theorem tabG3 : Tryd.prog.globalNamed "strings.asciiSpace" = some 0 := by kernel_rfl
theorem tabW3 : ∀ z ∈ tab3, IntKind.wrap .u8 z = z := fun z hz => by
  have h := List.all_eq_true.1 (show tab3.all (fun z => decide (IntKind.wrap .u8 z = z)) = true by kernel_rfl) z hz
  simpa using h
theorem tabIs3 {W : World} (h : laidMetH Tryd.prog Rows.lineBackRow.laid W) : Lib.TabIs Tryd.prog W "strings.asciiSpace" .u8 tab3 := by
  rw [MakeChecks.laidMetH_plain _ _ _ (by kernel_rfl)] at h
  exact Lib.tabIs_of_head tabG3 (t := 81) (e := 5) (n := 256) (by kernel_rfl) (by kernel_rfl) (by kernel_rfl) (by kernel_rfl) (by kernel_rfl) (laidMet_tail (laidMet_tail (laidMet_tail (laidMet_tail (laidMet_tail (laidMet_tail (laidMet_tail h)))))))
theorem wrap_shaped {H : Type} {enc : TypeId × Value → H} {a : Assume} {C : Checked} {os : Os} {f : FuncId} {fn : Func} {s : ChangeSpec} {conds : List PathCond} {apart fresh handsOn again : Bool} {X : World → Array Value → Prop}
    (hX : ∀ (w w' : World) (args : Array Value), w.heap = w'.heap → X w args → X w' args)
    (own : ownKnob C.prog.godebug = none) (started : os.Started) (noInit : C.prog.inits.idxOf? f = none) (hfn : C.prog.funcs[f]? = some fn)
    (witness : ∃ (w : World) (tape : Tape) (i : Input), w.os = os ∧ (w.forCall tape i).Shaped C.prog ∧ i.vars = [] ∧ Input.okWide C.prog (w.forCall tape i) .any w.heap.size f i ∧
      ((s.pre enc C.prog fn conds apart (w.forCall tape i).memory i.args ∧ X (w.forCall tape i).memory i.args) ∧ sizedMet enc C.prog fn (OpenSpec.ofChange s) apart (w.forCall tape i).memory i.args) ∧ a.holds C.prog (lone (Frame.enter C.prog f i.args .normal) [] (w.forCall tape i)))
    (contract : ∀ (W : World) (base : Nat) (args : Array Value) (ds gs : List (DataW H)) (before : List MemPlace),
      (∀ (j : Nat) t v, fn.params[j]? = some t → args[j]? = some v → Value.okWide C.prog W .any base t v) →
      DataW.Whole enc C.prog fn.params.toList s.vars apart W args.toList ds gs before →
      conds.all (PathCond.test C.prog ⟨fn.params.toList, ds, s.plain.varTypes C.prog, gs⟩) = true →
      (DataW.weightsEach C.prog (fn.params.toList ++ s.plain.varTypes C.prog) (ds ++ gs)).all (· ≤ reachBytes) = true → X W args → W.ShapedOpen C.prog →
      a.holds C.prog (lone (Frame.enter C.prog f args .normal) [] W) →
      Calls C.prog f args W fun e W' => ∃ v, e = .returned v ∧ s.post enc C.prog fn apart fresh handsOn again W args v W') :
    ReturnsInHanded a C os f .any (fun w args => (s.pre enc C.prog fn conds apart w args ∧ X w args) ∧ sizedMet enc C.prog fn (OpenSpec.ofChange s) apart w args) (s.post enc C.prog fn apart fresh handsOn again) := by
  refine returnsInHanded_of_calls own started noInit witness ?_
  intro w tape i _ hsh _ hok hpre hholds
  obtain ⟨_, _, _, fn', hfn', _, _, _, _, hval⟩ := hok
  obtain rfl : fn' = fn := Option.some.inj (hfn'.symm.trans hfn)
  obtain ⟨⟨⟨ds, gs, before, hw, hc⟩, hx⟩, hz⟩ := hpre
  refine (contract (w.forCall tape i) w.heap.size i.args ds gs before hval (DataW.Whole.of_heap (w' := w.forCall tape i) (by rfl) hw) hc (hz.weights hw) (hX _ _ _ (by rfl) hx) hsh hholds).mono fun e W' ⟨v, he, hp⟩ => ?_
  subst he
  exact ChangeSpec.post_blind hp
theorem var0 {W : World} (h : W.ShapedOpen Tryd.prog) : ∃ m, W.cell? ⟨5, 0, none⟩ = some (.int .i64 m) :=
  cell_of_shapedOpen_int (P := Tryd.prog) (g := 5) (t := 3) (zero := #[.int .i64 0]) h (of_decide_eq_true (by kernel_rfl)) (by kernel_rfl) rfl (by kernel_rfl) (by kernel_rfl) Tryd.underlying3
theorem star1 : "*" ++ "errors.errorString" = "*errors.errorString" := by decide
theorem row1 (u : TypeId) (h : Tryd.prog.typeName? 3 u = some "*errors.errorString") : u = 135 :=
  typeName_ptr_named (nm := "errors.errorString") (by rw [star1]; kernel_rfl) (by kernel_rfl) (by decide) u (by rw [star1]; exact h)
theorem gnm1 : Tryd.prog.globalNamed "strconv.ErrSyntax" = some 3 := by kernel_rfl
theorem var1 {W : World} (h : laidMetH Tryd.prog Rows.lineBackRow.laid W) : ∃ v, W.cell? ⟨3, 0, none⟩ = some v ∧ (v = .nilIface ∨ ∃ te pe, v = .iface te pe) := by
  rw [MakeChecks.laidMetH_plain _ _ _ (by kernel_rfl)] at h
  obtain ⟨a, s, hv, _⟩ := laid_sentinel (laidMet_tail (laidMet_tail (laidMet_tail (laidMet_tail (laidMet_tail (h)))))) gnm1 (ti := 66) (by kernel_rfl) Tryd.underlying66 row1 Tryd.underlying135 Tryd.underlying137 rfl rfl Tryd.underlying9 (by kernel_rfl) (by kernel_rfl)
  exact ⟨_, by simpa using World.var?_cell gnm1 hv 0, .inr ⟨_, _, rfl⟩⟩

theorem walk (w : World) (a0_0 : Int) (w0_0 : (Lit.int .i64 a0_0).wf = true) (a0_1 : Int) (w0_1 : (Lit.int .i64 a0_1).wf = true) (a0_2 : Int) (w0_2 : (Lit.int .i64 a0_2).wf = true) (a0_3 : Int) (w0_3 : (Lit.int .i64 a0_3).wf = true) (a0_4 : Int) (w0_4 : (Lit.int .i64 a0_4).wf = true) (a1 : RO) (k1 : a1.cks = [.int .u8]) (n1 : a1.a = none → a1.n = 0) (m1 : a1.n ≤ a1.cap) (t1 : RoAt w a1) (b1 : (a1.n : Int) ≤ 140737488355328) (tb0 : Lib.TabIs Tryd.prog w "internal/strconv.uint64pow10" .u64 tab0) (tb1 : Lib.TabIs Tryd.prog w "math/bits.deBruijn32tab" .u8 tab1) (tb2 : Lib.TabIs Tryd.prog w "math/bits.deBruijn64tab" .u8 tab2) (tb3 : Lib.TabIs Tryd.prog w "strings.asciiSpace" .u8 tab3) (mv0 : Int) (hv0 : w.cell? ⟨5, 0, none⟩ = some (.int .i64 mv0)) (mv1 : Value) (hv1 : w.cell? ⟨3, 0, none⟩ = some mv1) (kv1 : mv1 = .nilIface ∨ ∃ te pe, mv1 = .iface te pe) :
    Calls Tryd.prog 3 #[.agg #[.int .i64 a0_0, .int .i64 a0_1, .int .i64 a0_2, .int .i64 a0_3, .int .i64 a0_4], .slice a1.a a1.n a1.cap] w fun e w' => e = .returned (.bool true) ∧ Below w.heap.size w w' := by
  refine law_of (cx := cxOf 2) ok ⟨rfl, rfl, rfl⟩ (ρ := envR Tryd.prog [a0_0, a0_1, a0_2, a0_3, a0_4, (a1.n : Int), a1.c, (a1.cap : Int)] [a1, tabRo 2 .u64 tab0, tabRo 8 .u8 tab1, tabRo 9 .u8 tab2, tabRo 0 .u8 tab3, ⟨some ⟨5, 0, none⟩, 1, [], 0, 1, some (.int .i64 mv0)⟩, ⟨some ⟨3, 0, none⟩, 2, [], 0, 2, some mv1⟩]) (envR_ok (cx := rc.cx (cxOf 2)) rfl rfl (bnd_cons (wf_bd w0_0) (bnd_cons (wf_bd w0_1) (bnd_cons (wf_bd w0_2) (bnd_cons (wf_bd w0_3) (bnd_cons (wf_bd w0_4) (bnd_cons ⟨Int.natCast_nonneg _, b1⟩ (bnd_nil _))))))) ⟨⟨k1, rfl, (Int.toNat_natCast _).symm, (Int.toNat_natCast _).symm, n1, fun g h => by cases h⟩, ⟨⟨rfl, (listE_LZ _ _ _ tab0).symm, rfl, rfl, (fun h => by cases h), fun g h => by cases h; exact ⟨rfl, rfl⟩⟩, ⟨⟨rfl, (listE_LZ _ _ _ tab1).symm, rfl, rfl, (fun h => by cases h), fun g h => by cases h; exact ⟨rfl, rfl⟩⟩, ⟨⟨rfl, (listE_LZ _ _ _ tab2).symm, rfl, rfl, (fun h => by cases h), fun g h => by cases h; exact ⟨rfl, rfl⟩⟩, ⟨⟨rfl, (listE_LZ _ _ _ tab3).symm, rfl, rfl, (fun h => by cases h), fun g h => by cases h; exact ⟨rfl, rfl⟩⟩, ⟨⟨rfl, rfl, rfl, rfl, (fun h => by cases h), fun g h => by cases h; exact ⟨rfl, ⟨mv0, rfl⟩⟩⟩, ⟨⟨rfl, rfl, rfl, rfl, (fun h => by cases h), fun g h => by cases h; exact ⟨rfl, ⟨mv1, rfl, kv1⟩⟩⟩, trivial⟩⟩⟩⟩⟩⟩⟩) (fun d hd => by
    simp only [show qXu rc.b rc.c rc.ls 0 0 0 = [⟨[.int .u8], .v 6, .v 5, .v 7, none⟩] from rfl, List.mem_cons, List.not_mem_nil, or_false] at hd
    rcases hd with rfl
    · exact Int.ofNat_le.2 m1) (roOk_of ⟨t1, ⟨tabRo_at tb0 tabG0 tabW0, ⟨tabRo_at tb1 tabG1 tabW1, ⟨tabRo_at tb2 tabG2 tabW2, ⟨tabRo_at tb3 tabG3 tabW3, ⟨varRo_at hv0, ⟨varRo_at hv1, trivial⟩⟩⟩⟩⟩⟩⟩) ?_
  rw [show rc.args = [.agg [.int .i64 (.v 0), .int .i64 (.v 1), .int .i64 (.v 2), .int .i64 (.v 3), .int .i64 (.v 4)], .sl (.inp 0) 1 (.c 0) (.v 5) (some (.v 7))] from rfl]
  simp only [SV.denL, SV.den, E.ev, map_addr_zero]
  rfl
theorem lifted (os : Os) (started : os.Started) (H : Type) (enc : TypeId × Value → H) :
    ReturnsInHanded {} Tryd.checked os 3 .any (fun w args => (Rows.lineBackSpec.pre enc Tryd.prog Tryd.f3 Rows.lineBackRow.domain false w args ∧ laidMetH Tryd.prog Rows.lineBackRow.laid w) ∧ sizedMet enc Tryd.prog Tryd.f3 (OpenSpec.ofChange Rows.lineBackSpec) false w args)
      (Rows.lineBackSpec.post enc Tryd.prog Tryd.f3 false true false false) := by
  refine wrap_shaped (C := Tryd.checked) (X := fun w _ => laidMetH Tryd.prog Rows.lineBackRow.laid w) (fun _ _ _ hh h => h.of_heap hh) own started (by kernel_rfl) Tryd.func3
    (ChangeSpec.witness_shaped (enc := enc) (C := Tryd.checked) (os := os) (X := fun w _ => laidMetH Tryd.prog Rows.lineBackRow.laid w) false (World.laidAll Tryd.prog os Rows.lineBackRow.laid) #[.agg #[.int .i64 0, .int .i64 0, .int .i64 0, .int .i64 0, .int .i64 0], .slice none 0 0] 8 (World.laidAll_os _ _ _)
      (World.shaped_of_ZipB (by kernel_rfl) (by kernel_rfl)) (by kernel_rfl) (by kernel_rfl) (by kernel_rfl)
      (by rw [MakeChecks.laidMetH_plain _ _ _ (by kernel_rfl)]; exact laidMet_laidAll _ (by kernel_rfl) (by kernel_rfl))) ?_
  intro W base args ds gs before hval0 hW hcnd hw0 hL hsh _
  have hval : ∀ (j : Nat) t v, Tryd.f3.params[j]? = some t → args[j]? = some v → Value.okWide Tryd.prog W .any base t v := hval0
  have hW' := hW
  obtain ⟨p, q, hA0, hV, rfl, hfz, hnd⟩ := hW
  have hA : DataW.TrodAll enc Tryd.prog W 0 (fun _ => true) true Tryd.f3.params.toList args.toList ds p := hA0
  have hw := hw0
  rw [Tryd.params3] at hA hval hw
  obtain ⟨v0, vs0, d0, ds0, p0, q0, hargs, rfl, rfl, h0, r0⟩ := trodAll_cons hA
  have h0k := h0
  obtain ⟨v1, vs1, d1, ds1, p1, q1, rfl, rfl, rfl, h1, r1⟩ := trodAll_cons r0
  have h1k := h1
  obtain ⟨rfl, rfl, rfl⟩ := trodAll_nil r1
  obtain rfl : args = #[v0, v1] := by cases args; simp_all
  obtain ⟨rfl, rfl⟩ := trodVars_none hV
  obtain ⟨xs0, hl0, rfl, hx0⟩ := Go.Eng.open_ints (k := .i64) Tryd.underlying23 (by kernel_rfl) (by kernel_rfl) (List.forall_mem_cons.2 ⟨by kernel_rfl, List.forall_mem_cons.2 ⟨by kernel_rfl, List.forall_mem_cons.2 ⟨by kernel_rfl, List.forall_mem_cons.2 ⟨by kernel_rfl, List.forall_mem_cons.2 ⟨by kernel_rfl, fun _ h => nomatch h⟩⟩⟩⟩⟩) (hval 0 23 v0 rfl rfl) h0
  have hl0 : xs0.length = 5 := hl0
  obtain ⟨a0_0, xs0, rfl⟩ := List.exists_cons_of_length_eq_add_one hl0
  have hl0 := Nat.succ.inj hl0
  obtain ⟨a0_1, xs0, rfl⟩ := List.exists_cons_of_length_eq_add_one hl0
  have hl0 := Nat.succ.inj hl0
  obtain ⟨a0_2, xs0, rfl⟩ := List.exists_cons_of_length_eq_add_one hl0
  have hl0 := Nat.succ.inj hl0
  obtain ⟨a0_3, xs0, rfl⟩ := List.exists_cons_of_length_eq_add_one hl0
  have hl0 := Nat.succ.inj hl0
  obtain ⟨a0_4, xs0, rfl⟩ := List.exists_cons_of_length_eq_add_one hl0
  have hl0 := Nat.succ.inj hl0
  obtain rfl := List.eq_nil_of_length_eq_zero hl0
  have w0_0 := hx0 a0_0 (by simp)
  have w0_1 := hx0 a0_1 (by simp)
  have w0_2 := hx0 a0_2 (by simp)
  have w0_3 := hx0 a0_3 (by simp)
  have w0_4 := hx0 a0_4 (by simp)
  obtain ⟨a1, k1, rfl, n1, m1, t1, b1, _⟩ := Go.Eng.open_row (ks := [.int .u8]) Tryd.underlying24 (ElT.one Tryd.underlying5 (by kernel_rfl)) (by decide) (of_decide_eq_true (by kernel_rfl)) (by kernel_rfl) (hval 1 24 v1 rfl rfl) h1 (weights_of (gs := []) hw (j := 1) (t := 24) rfl rfl)
  obtain ⟨mv0, hv0⟩ := var0 hsh
  obtain ⟨mv1, hv1, kv1⟩ := var1 hL
  clear hA0 hval0
  refine (walk W a0_0 w0_0 a0_1 w0_1 a0_2 w0_2 a0_3 w0_3 a0_4 w0_4 a1 k1 n1 m1 t1 b1 (tabIs0 hL) (tabIs1 hL) (tabIs2 hL) (tabIs3 hL) mv0 hv0 mv1 hv1 kv1).mono fun e W' ⟨he, hg⟩ => ?_
  subst he
  have hin0 : ∀ x ∈ p0, x ∈ p0 ++ (p1 ++ []) ++ [] := fun x hx => by simp [hx]
  have hlt0 : ∀ x ∈ p0, x.block < W.heap.size := fun x hx => by simpa using hW'.lt x (by simp [hx])
  have hin1 : ∀ x ∈ p1, x ∈ p0 ++ (p1 ++ []) ++ [] := fun x hx => by simp [hx]
  have hlt1 : ∀ x ∈ p1, x.block < W.heap.size := fun x hx => by simpa using hW'.lt x (by simp [hx])
  exact ⟨_, rfl, post_below (pa := _) (pv := []) hW' hg (fun _ _ _ => (trodAll_cons_mk (shut_bool Tryd.underlying4 _) trodAll_mk0)) (fun sp hsp => (trodAll_cons_mk (WideElems.Trod_stays laidOut (by kernel_rfl) (of_decide_eq_true (by kernel_rfl)) h0k (fun x hx => hg.same (hlt0 x hx)) (fun x hx => hsp x (hin0 x hx))) (trodAll_cons_mk (WideElems.Trod_stays laidOut (by kernel_rfl) (of_decide_eq_true (by kernel_rfl)) h1k (fun x hx => hg.same (hlt1 x hx)) (fun x hx => hsp x (hin1 x hx))) trodAll_mk0))) (fun _ _ => rfl) (by simp)
    (ok_one (by kernel_rfl) rfl (okWide_bool_mk Tryd.underlying4 _))⟩

theorem over : Rows.lineBackRow.holds Tryd.pinned (OpenSpec.ofChange Rows.lineBackSpec) :=
  OpenClaim.holds_of_wide 3 Tryd.f3 rfl rfl rfl rfl rfl rfl rfl ⟨rfl, rfl, rfl, rfl, rfl⟩ rfl rfl rfl rfl rfl (by kernel_rfl) Tryd.func3 (by kernel_rfl)
    (of_decide_eq_true (by kernel_rfl)) (by unfold Func.isWrapper; first | (rw [if_pos (by decide +kernel)]; kernel_rfl) | (rw [if_neg (by decide +kernel)]; exact ⟨rfl, rfl⟩))
    (fun os started H enc _ => lifted os started H enc)

/-- the statement -/
theorem proved : Rows.LineBackCardSaid :=
  Claim7.holds_tied_plain_at .later [] [.data, .data, .data, .data, .sentinel, .sentinel, .listed, .data, .pinned] true (true, "cc58b1e5e26e6c5b68b3dd55dab14a1914aa9e614b724d4a0683b01778e2e95e") true
    over (fun _ h => by cases h) (by kernel_rfl) (fun _ h => by cases h) lineBack_row_tie rfl ⟨rfl, rfl⟩ (by kernel_rfl) rfl
    (fun f fn hf hfn => by
      obtain rfl : f = 3 := Option.some.inj ((show Tryd.prog.funcNamed "astrolabe/astrolabelaw14.LineBack" = some 3 by kernel_rfl).symm.trans hf) |>.symm
      obtain rfl : fn = Tryd.f3 := (Option.some.inj (Tryd.func3.symm.trans hfn)).symm
      exact ⟨by kernel_rfl, fun j t ht => by
        rw [Tryd.params3] at ht
        have h3 : t = 23 ∨ t = 24 := by
          rcases j with _ | _ | j
          · exact (.inl (by simpa using ht.symm))
          · exact (.inr (by simpa using ht.symm))
          · simp at ht
        rcases h3 with rfl | rfl
        · exact (show Tryd.prog.wantsStandIn 23 = false by kernel_rfl)
        · exact (show Tryd.prog.wantsStandIn 24 = false by kernel_rfl)⟩)
    (by kernel_rfl)
#print axioms proved
end Go.Proofs.YtppiabilakeadabDoor.lineBack
