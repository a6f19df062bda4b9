/-
  What functions of the program answer, as numbers of what they are handed: their runs by the engine, the plain statements behind them. No condition.
-/
import Derived.Test.YtppiabilakeadaaGreatDoorKh
import Derived.Test.YtppiabilakeadaaGreatDoorKi
import Derived.Test.YtppiabilakeadaaGreatDoorGab
import Derived.Test.YtppiabilakeadaaGreatDoorGp3
import Derived.Test.YtppiabilakeadaaGreatDoorGp2
set_option linter.unusedVariables false
set_option linter.unusedSimpArgs false
set_option maxRecDepth 100000
namespace Go.Proofs.YtppiabilakeadaaGreatDoor
open Go.Eng Go.RowKit
namespace CRParse14
def rk : Rk := ⟨8, [], 1, [.str (.v 0)], [], [(.b .le .i64 (.f 21 (.v 0) (.c 0) (.c 0)) (.c 100000))], .tup [.agg [.int .i64 (.v 1000000), .int .i64 (.v 1000001), .int .i64 (.v 1000002), .int .i64 (.v 1000003), .int .i64 (.v 1000004)], .int .i64 (.v 1000005)], [], [.num (.f 143 (.v 0) (.c 0) (.c 0)), .num (.f 143 (.v 0) (.c 1) (.c 0)), .num (.f 143 (.v 0) (.c 2) (.c 0)), .num (.f 143 (.v 0) (.c 3) (.c 0)), .num (.f 143 (.v 0) (.c 4) (.c 0)), .num (.f 144 (.v 0) (.c 0) (.c 0))], []⟩
theorem okk : rk.ok = true := by kernel_rfl
theorem okh : rk.rh.ok = true := by kernel_rfl
theorem holds (s : Int) (h_pre0 : qQx (decide ((qQz s)  ≤  100000)) ≠ 0) : (0 ≤ (0  : Int) ∧ (0  : Int) ≤ 0 ∧ (2 : Int) ≠ 0 ∧ (1 : Int) ≠ 0 ∧ qQx (decide ((qQz s)  ≤  100000)) ≠ 0 ∧ qQx ((wrdN s)  ==  0) ≠ 0 ∧ qQx (0  ==  ((0  : Int))) ≠ 0) ∨ (0 ≤ (opfZ (rdZ (wrdC s) 0))  ∧ (opfZ (rdZ (wrdC s) 0))  ≤ 23 ∧ (2 : Int) ≠ 0 ∧ (1 : Int) ≠ 0 ∧ qQx (decide ((qQz s)  ≤  100000)) ≠ 0 ∧ qQx ((wrdN s)  !=  0) ≠ 0 ∧ qQx ((opfZ (rdZ (wrdC s) 0))  ==  ((opfZ (rdZ (wrdC s) 0)) )) ≠ 0) ∨ (24 ≤ (opfZ (rdZ (wrdC s) 0))  ∧ (opfZ (rdZ (wrdC s) 0))  ≤ 31 ∧ (2 : Int) ≠ 0 ∧ (1 : Int) ≠ 0 ∧ qQx (decide ((qQz s)  ≤  100000)) ≠ 0 ∧ qQx ((wrdN s)  !=  0) ≠ 0 ∧ qQx ((opfZ (rdZ (wrdC s) 0))  ==  ((opfZ (rdZ (wrdC s) 0)) )) ≠ 0) ∨ (32 ≤ (opfZ (rdZ (wrdC s) 0))  ∧ (opfZ (rdZ (wrdC s) 0))  ≤ 38 ∧ (2 : Int) ≠ 0 ∧ (1 : Int) ≠ 0 ∧ qQx (decide ((qQz s)  ≤  100000)) ≠ 0 ∧ qQx ((wrdN s)  !=  0) ≠ 0 ∧ qQx ((opfZ (rdZ (wrdC s) 0))  ==  ((opfZ (rdZ (wrdC s) 0)) )) ≠ 0) ∨ (39 ≤ (opfZ (rdZ (wrdC s) 0))  ∧ (opfZ (rdZ (wrdC s) 0))  ≤ 43 ∧ (2 : Int) ≠ 0 ∧ (1 : Int) ≠ 0 ∧ qQx (decide ((qQz s)  ≤  100000)) ≠ 0 ∧ qQx ((wrdN s)  !=  0) ≠ 0 ∧ qQx ((opfZ (rdZ (wrdC s) 0))  ==  ((opfZ (rdZ (wrdC s) 0)) )) ≠ 0) := by
 have hop := opfZ_bd (rdZ (wrdC s) 0)
 have hle := opfZ_le (rdZ (wrdC s) 0)
 simp only [nrm, Int.reduceEq, Int.reduceNeg, reduceIte, opfZ_e] at h_pre0 ⊢
 omega
theorem htabs : ∀ d ∈ tabsL, d.c.vb 0 = true ∧ d.n.vb 0 = true ∧ d.cap.vb 0 = true := fun d hd => by have := List.all_eq_true.1 tabsAll d hd; simp only [Bool.and_eq_true] at this; exact this
theorem ok : RhOk (cxOf 2) rk.rh := fun ρ β w hρ hpre hs => by
 obtain ⟨i, f, v, ro, p⟩ := ρ
 have hf : f = fN := hρ.hF
 subst hf
 have q := hρ.hi
 rcases holds (i 0) (hpre _ (mg 0 rfl)) with h | h | h | h | h
 ·obtain ⟨hx1, hx2, g0, g1, g2, g3, g4⟩ := h
  exact qXn htabs (m := rk.rh) (p := CRPe.rk.rh) rfl rfl rfl rfl rfl rfl rfl rfl CRPe.ok rfl (fun _ => rfl) hρ ⟨hx1, hx2⟩ (List.forall_mem_cons.2 ⟨g0, List.forall_mem_cons.2 ⟨g1, List.forall_mem_cons.2 ⟨g2, List.forall_mem_cons.2 ⟨g3, List.forall_mem_cons.2 ⟨g4, (fun _ h => by cases h)⟩⟩⟩⟩⟩) hs
 ·obtain ⟨hx1, hx2, g0, g1, g2, g3, g4⟩ := h
  exact qXn htabs (m := rk.rh) (p := CRPa.rk.rh) rfl rfl rfl rfl rfl rfl rfl rfl CRPa.ok rfl (fun _ => rfl) hρ ⟨hx1, hx2⟩ (List.forall_mem_cons.2 ⟨g0, List.forall_mem_cons.2 ⟨g1, List.forall_mem_cons.2 ⟨g2, List.forall_mem_cons.2 ⟨g3, List.forall_mem_cons.2 ⟨g4, (fun _ h => by cases h)⟩⟩⟩⟩⟩) hs
 ·obtain ⟨hx1, hx2, g0, g1, g2, g3, g4⟩ := h
  exact qXn htabs (m := rk.rh) (p := CRPb.rk.rh) rfl rfl rfl rfl rfl rfl rfl rfl CRPb.ok rfl (fun _ => rfl) hρ ⟨hx1, hx2⟩ (List.forall_mem_cons.2 ⟨g0, List.forall_mem_cons.2 ⟨g1, List.forall_mem_cons.2 ⟨g2, List.forall_mem_cons.2 ⟨g3, List.forall_mem_cons.2 ⟨g4, (fun _ h => by cases h)⟩⟩⟩⟩⟩) hs
 ·obtain ⟨hx1, hx2, g0, g1, g2, g3, g4⟩ := h
  exact qXn htabs (m := rk.rh) (p := CRPc.rk.rh) rfl rfl rfl rfl rfl rfl rfl rfl CRPc.ok rfl (fun _ => rfl) hρ ⟨hx1, hx2⟩ (List.forall_mem_cons.2 ⟨g0, List.forall_mem_cons.2 ⟨g1, List.forall_mem_cons.2 ⟨g2, List.forall_mem_cons.2 ⟨g3, List.forall_mem_cons.2 ⟨g4, (fun _ h => by cases h)⟩⟩⟩⟩⟩) hs
 ·obtain ⟨hx1, hx2, g0, g1, g2, g3, g4⟩ := h
  exact qXn htabs (m := rk.rh) (p := CRPd.rk.rh) rfl rfl rfl rfl rfl rfl rfl rfl CRPd.ok rfl (fun _ => rfl) hρ ⟨hx1, hx2⟩ (List.forall_mem_cons.2 ⟨g0, List.forall_mem_cons.2 ⟨g1, List.forall_mem_cons.2 ⟨g2, List.forall_mem_cons.2 ⟨g3, List.forall_mem_cons.2 ⟨g4, (fun _ h => by cases h)⟩⟩⟩⟩⟩) hs
end CRParse14
namespace CRTexts14
def rc : Rc := ⟨11, [none, none], [.row [.str] 1000000, .row [.str] 1000000], [], .one, [.bool (.ite (.b .eq .i64 (.v 0) (.v 1)) (.f 145 (.v 2) (.v 3) (.v 0)) (.c 0))]⟩
theorem okb : rc.ok = true := by kernel_rfl
noncomputable def us : SMs := fun Γ ins n => smH (cxG n Γ ins) [] (smR (cxG n Γ ins) [])
theorem us_ok : SMsOk us := fun Γ ins n => qZb (tabsG n Γ ins) (qQs _) (qZw (tabsG n Γ ins) (qQt _))
def tree : TT (List E) :=
(.br (.b .ne .i64 (.v 0) (.v 1))
 (.leaf [(.c 0)])
 (.loop ⟨1000, [some (0, 4611686018427387904)], [(.c 0)], 1002⟩
 (.br (.b .lt .i64 (.cl 1000 0 4611686018427387904) (.v 0))
 (.br (.b .lt .i64 (.cl 1000 0 4611686018427387904) (.v 1))
 (.br (.nt (.f 20 (.f 13 (.v 2) (.cl 1000 0 4611686018427387904) (.c 0)) (.f 13 (.v 3) (.cl 1000 0 4611686018427387904) (.c 0)) (.c 0)))
 (.exit 0)
 (.br (.b .le .i64 (.b .padd .i64 (.cl 1000 0 4611686018427387904) (.c 1)) (.c 4611686018427387904))
 (.back [(.b .padd .i64 (.cl 1000 0 4611686018427387904) (.c 1))])
 (.bad 303)))
 (.bad 200))
 (.exit 1))
 (.br (.b .eq .i64 (.v 1002) (.c 0))
 (.leaf [(.c 0)])
 (.leaf [(.c 1)]))))
def P (n0 n1 c0 c1 r0 r1 : Int) : Prop :=
 (((qQx (n0 != n1)) ≠ 0 →
  ((0 : Int) ≠ 0 ↔ ((iteZ (qQx (n0 == n1)) (samT c0 c1 n0) 0) : Int) ≠ 0) ∧ True) ∧ ((qQx (n0 != n1)) = 0 →
  ∃ I1000 : Int → Nat → Prop, (∃ m, I1000 0 m) ∧
  ∀ y1000 : Int, ∀ m1000, ((0 ≤ y1000 ∧ y1000 ≤ 4611686018427387904) ∧ True) → I1000 y1000 m1000 →
   (((qQx (decide (y1000 < n0))) ≠ 0 →
    (((qQx (decide (y1000 < n1))) ≠ 0 →
     (((qQx ((seqZ (rdZ c0 y1000) (rdZ c1 y1000)) == 0)) ≠ 0 →
      (((qQx ((0 : Int) == 0)) ≠ 0 →
       ((0 : Int) ≠ 0 ↔ ((iteZ (qQx (n0 == n1)) (samT c0 c1 n0) 0) : Int) ≠ 0) ∧ True) ∧ ((qQx ((0 : Int) == 0)) = 0 →
       ((1 : Int) ≠ 0 ↔ ((iteZ (qQx (n0 == n1)) (samT c0 c1 n0) 0) : Int) ≠ 0) ∧ True))) ∧ ((qQx ((seqZ (rdZ c0 y1000) (rdZ c1 y1000)) == 0)) = 0 →
      (((qQx (decide ((y1000 + 1) ≤ 4611686018427387904))) ≠ 0 →
       ∃ m', m' < m1000 ∧ I1000 (y1000 + 1) m') ∧ ((qQx (decide ((y1000 + 1) ≤ 4611686018427387904))) = 0 →
       False))))) ∧ ((qQx (decide (y1000 < n1))) = 0 →
     False))) ∧ ((qQx (decide (y1000 < n0))) = 0 →
    (((qQx ((1 : Int) == 0)) ≠ 0 →
     ((0 : Int) ≠ 0 ↔ ((iteZ (qQx (n0 == n1)) (samT c0 c1 n0) 0) : Int) ≠ 0) ∧ True) ∧ ((qQx ((1 : Int) == 0)) = 0 →
     ((1 : Int) ≠ 0 ↔ ((iteZ (qQx (n0 == n1)) (samT c0 c1 n0) 0) : Int) ≠ 0) ∧ True))))))
theorem holds (n0 n1 c0 c1 r0 r1 : Int) (l_n0 : 0 ≤ n0) (u_n0 : n0 ≤ 1000000) (l_n1 : 0 ≤ n1) (u_n1 : n1 ≤ 1000000) (h_n0 : n0 ≤ r0) (h_n1 : n1 ≤ r1) : P n0 n1 c0 c1 r0 r1 := by
 unfold P
 simp only [nrm, Int.reduceEq, Int.reduceNeg, reduceIte]
 refine And.intro (fun h => by rw [if_neg h]) (fun h => ?_)
 subst h
 rw [if_pos rfl]
 refine ⟨fun i m => 0 ≤ i ∧ m = (n0 - i).toNat ∧ ∀ j : Nat, (j : Int) < i → qQj (rdZ c0 j) = qQj (rdZ c1 j), ⟨_, by omega, rfl, fun j hj => by omega⟩, ?_⟩
 rintro i m hb ⟨h0, rfl, hI⟩
 refine And.intro (fun hi => And.intro (fun _ => And.intro (fun hz => ?_) (fun hz => And.intro (fun _ => ⟨_, ?_, by omega, rfl, fun j hj => ?_⟩) (fun h => by omega))) (fun h => by omega)) (fun hi => ?_)
 ·unfold samT
  rw [if_neg]
  intro g
  have := g i.toNat (by omega)
  rw [show ((i.toNat : Nat) : Int) = i by omega] at this
  exact ((seqZ_iff _ _).2 this) hz
 ·omega
 ·by_cases e : (j : Int) = i
  ·rw [e]; exact (seqZ_iff _ _).1 hz
  ·exact hI j (by omega)
 ·unfold samT
  rw [if_pos fun j hj => hI j (by omega)]
  decide
theorem plain (i v ro p) : statR 2 rc tree ⟨i, fN, v, ro, p⟩ = P (i 0) (i 1) (i 2) (i 3) (i 4) (i 5) := by kernel_rfl
theorem ran : ranR us (fun _ _ => .auto) rc 2 tree = true := by kernel_rfl
theorem fineT : fineR 2 rc tree = true := by kernel_rfl
theorem ok : RcOk (cxOf 2) rc := okR us_ok ran fineT okb fun i v ro p hρ hcap hpre => by rw [plain]; have q := hρ.hi; exact holds _ _ _ _ _ _ (q 0 _ rfl).1 (q 0 _ rfl).2 (q 1 _ rfl).1 (q 1 _ rfl).2 (hcap _ (mg 0 rfl)) (hcap _ (mg 1 rfl))
end CRTexts14
end Go.Proofs.YtppiabilakeadaaGreatDoor
