/-
  The law TraceTells answers true at every input: the law is run by the engine (a symbolic run, proved sound), the tree of its answers, as a plain statement, is shown to hold. No condition.
-/
import Derived.Test.YtlepjbacaffddaaGab
import Derived.Test.YtlepjbacaffddaaCTCost
import Derived.Test.YtlepjbacaffddaaCRTCost
import Derived.Test.YtlepjbacaffddaaCTCount
import Derived.Test.YtlepjbacaffddaaCRTCount
import Derived.Test.YtlepjbacaffddaaCTFirst
import Derived.Test.YtlepjbacaffddaaCRTFirst
import Derived.Test.YtlepjbacaffddaaCTFolds
import Derived.Test.YtlepjbacaffddaaCRTFolds
import Derived.Test.YtlepjbacaffddaaCTAddrs
import Derived.Test.YtlepjbacaffddaaCRTAddrs
import Derived.Test.YtlepjbacaffddaaCRSame17
import Derived.Test.YtlepjbacaffddaaCAwake17
import Derived.Test.YtlepjbacaffddaaGmT
import Derived.WalkKit
import Derived.ProofKit
import Derived.OpenShut
import Derived.LaidMore
import Derived.Stop.Joined
import Derived.SevenTiedAt
import Derived.SizedLaws
namespace Go.Proofs.Ytlepjbacaffddaa.traceTells
open Go.ChangeShapes Go.WideShapes Go.ChangeAt Go.Eng Go.RowKit
set_option linter.unusedVariables false
set_option linter.unusedSimpArgs false
set_option maxRecDepth 100000
def rc : Rc := ⟨5, [none, none, none], [.row [.int .i64, .int .i64, .int .i64] 140737488355328, .row [.int .i64, .int .i64, .int .i64] 140737488355328, .int .i64], [], .one, [.bool (.c 1)]⟩
theorem okb : rc.ok = true := by kernel_rfl
noncomputable def us : SMs := fun m n => smR (m.cx (cxOf n)) [CTCost.rc, CRTCost.rc, CTCount.rc, CRTCount.rc, CTFirst.rc, CRTFirst.rc, CTFolds.rc, CRTFolds.rc, CTAddrs.rc, CRTAddrs.rc, CRSame17.rc, CAwake17.rc]
theorem us_ok : SMsOk us := fun m n => smR_ok (rcs_cons CTCost.okb (rc_n CTCost.ok) (rcs_cons CRTCost.okb (rc_n CRTCost.ok) (rcs_cons CTCount.okb (rc_n CTCount.ok) (rcs_cons CRTCount.okb (rc_n CRTCount.ok) (rcs_cons CTFirst.okb (rc_n CTFirst.ok) (rcs_cons CRTFirst.okb (rc_n CRTFirst.ok) (rcs_cons CTFolds.okb (rc_n CTFolds.ok) (rcs_cons CRTFolds.okb (rc_n CRTFolds.ok) (rcs_cons CTAddrs.okb (rc_n CTAddrs.ok) (rcs_cons CRTAddrs.okb (rc_n CRTAddrs.ok) (rcs_cons CRSame17.okb (rc_n CRSame17.ok) (rcs_cons CAwake17.okb (rc_n CAwake17.ok) (rcs_nil _)))))))))))))
def tree : TT (List E) :=
(.br (.b .lt .i64 (.c 500) (.v 0))
  (.leaf [(.c 1)])
  (.br (.b .lt .i64 (.c 500) (.v 1))
  (.leaf [(.c 1)])
  (.br (.b .le .i64 (.v 0) (.c 1000000))
  (.br (.b .le .i64 (.v 0) (.v 5))
  (.br (.b .le .i64 (.v 1) (.c 1000000))
  (.br (.b .le .i64 (.v 1) (.v 6))
  (.br (.b .le .i64 (.v 0) (.c 900000))
  (.br (.b .le .i64 (.c 0) (.f 40 (.v 3) (.v 0) (.c 0)))
  (.br (.b .le .i64 (.f 40 (.v 3) (.v 0) (.c 0)) (.c 1000000))
  (.br (.f 32 (.f 41 (.v 3) (.v 0) (.c 0)) (.f 41 (.v 3) (.v 0) (.c 0)) (.f 40 (.v 3) (.v 0) (.c 0)))
  (.br (.b .le .i64 (.c 0) (.f 38 (.v 3) (.v 0) (.c 0)))
  (.br (.b .le .i64 (.f 38 (.v 3) (.v 0) (.c 0)) (.c 1000000))
  (.br (.f 32 (.f 39 (.v 3) (.v 0) (.c 0)) (.f 39 (.v 3) (.v 0) (.c 0)) (.f 38 (.v 3) (.v 0) (.c 0)))
  (.leaf [(.c 1)])
  (.leaf [(.c 0)]))
  (.bad 200))
  (.bad 200))
  (.leaf [(.c 0)]))
  (.bad 200))
  (.bad 200))
  (.bad 200))
  (.bad 200))
  (.bad 200))
  (.bad 200))
  (.bad 200))))

def P (n0 n1 p2 c0 c1 r0 r1 : Int) : Prop :=
 (((bool01 (decide (500 < n0))) ≠ 0 →
  ((1 : Int) ≠ 0 ↔ (1 : Int) ≠ 0) ∧ True) ∧ ((bool01 (decide (500 < n0))) = 0 →
  (((bool01 (decide (500 < n1))) ≠ 0 →
   ((1 : Int) ≠ 0 ↔ (1 : Int) ≠ 0) ∧ True) ∧ ((bool01 (decide (500 < n1))) = 0 →
   (((bool01 (decide (n0 ≤ 1000000))) ≠ 0 →
    (((bool01 (decide (n0 ≤ r0))) ≠ 0 →
     (((bool01 (decide (n1 ≤ 1000000))) ≠ 0 →
      (((bool01 (decide (n1 ≤ r1))) ≠ 0 →
       (((bool01 (decide (n0 ≤ 900000))) ≠ 0 →
        (((bool01 (decide (0 ≤ (addrN c0 n0)))) ≠ 0 →
         (((bool01 (decide ((addrN c0 n0) ≤ 1000000))) ≠ 0 →
          (((sameZ (addrC c0 n0) (addrC c0 n0) (addrN c0 n0)) ≠ 0 →
           (((bool01 (decide (0 ≤ (foldN c0 n0)))) ≠ 0 →
            (((bool01 (decide ((foldN c0 n0) ≤ 1000000))) ≠ 0 →
             (((sameZ (foldC c0 n0) (foldC c0 n0) (foldN c0 n0)) ≠ 0 →
              ((1 : Int) ≠ 0 ↔ (1 : Int) ≠ 0) ∧ True) ∧ ((sameZ (foldC c0 n0) (foldC c0 n0) (foldN c0 n0)) = 0 →
              ((0 : Int) ≠ 0 ↔ (1 : Int) ≠ 0) ∧ True))) ∧ ((bool01 (decide ((foldN c0 n0) ≤ 1000000))) = 0 →
             False))) ∧ ((bool01 (decide (0 ≤ (foldN c0 n0)))) = 0 →
            False))) ∧ ((sameZ (addrC c0 n0) (addrC c0 n0) (addrN c0 n0)) = 0 →
           ((0 : Int) ≠ 0 ↔ (1 : Int) ≠ 0) ∧ True))) ∧ ((bool01 (decide ((addrN c0 n0) ≤ 1000000))) = 0 →
          False))) ∧ ((bool01 (decide (0 ≤ (addrN c0 n0)))) = 0 →
         False))) ∧ ((bool01 (decide (n0 ≤ 900000))) = 0 →
        False))) ∧ ((bool01 (decide (n1 ≤ r1))) = 0 →
       False))) ∧ ((bool01 (decide (n1 ≤ 1000000))) = 0 →
      False))) ∧ ((bool01 (decide (n0 ≤ r0))) = 0 →
     False))) ∧ ((bool01 (decide (n0 ≤ 1000000))) = 0 →
    False))))))

theorem holds (n0 n1 p2 c0 c1 r0 r1 : Int) (l_n0 : 0 ≤ n0) (u_n0 : n0 ≤ 140737488355328) (l_n1 : 0 ≤ n1) (u_n1 : n1 ≤ 140737488355328) (l_p2 : -9223372036854775808 ≤ p2) (u_p2 : p2 ≤ 9223372036854775807) (h_n0 : n0 ≤ r0) (h_n1 : n1 ≤ r1) : P n0 n1 p2 c0 c1 r0 r1 := by
  unfold P
  simp only [b01_eq, decide_eq_true_eq, decide_eq_false_iff_not, beq_iff_eq, beq_eq_false_iff_ne, bne_iff_ne, bne_eq_false_iff_eq, Int.not_le, Int.not_lt, true_and, and_true, iteZ_ne, ne_eq, Bool.not_eq_false, Bool.not_eq_true, not_true_eq_false, not_false_eq_true, Decidable.not_not, forall_const, false_implies, true_iff, iff_true, false_iff, iff_false, Int.reduceEq, Int.reduceNeg, eq_self, if_true, if_false, reduceIte, ob_le, ob_lt, ob_p, ob_n, sameZ_refl]
  have ha := addrN_bd c0 n0 l_n0
  have hf := foldN_bd c0 n0 l_n0
  repeat' (first | omega | exact trivial | apply And.intro | intro _)

theorem plain (i : Nat → Int) (v : Nat → Value) (ro : Nat → RO) (p : Program) : TT.hdP (rc.cx (cxOf 2)) (rlF ⟨i, fN, v, ro, p⟩ rc.res) tree ⟨i, fN, v, ro, p⟩ = P (i 0) (i 1) (i 2) (i 3) (i 4) (i 5) (i 6) := by kernel_rfl
theorem ran : TT.beq (projL (rc.pj (cxOf 2)) (runT us (fun _ _ => .auto) rc 2 rc.f rc.args ⟨[], []⟩)) tree = true := by kernel_rfl
theorem fineT : (TT.fine (rc.cx (cxOf 2)) 1000 [] tree && (rc.cx (cxOf 2)).okB 1000 && SV.vbL 1000 rc.args && TT.tidy (rc.cx (cxOf 2)) [] tree) = true := by kernel_rfl
theorem ok : RcOk (cxOf 2) rc :=
  rc_run (runT_ok us_ok (fun _ _ => .auto) rc 2) ran fineT okb fun ρ hρ hcap hpre => by
    obtain ⟨i, f, v, ro, p⟩ := ρ
    have hf : f = fN := hρ.hF
    subst hf
    rw [plain]
    exact holds (i 0) (i 1) (i 2) (i 3) (i 4) (i 5) (i 6) (hρ.hi 0 _ rfl).1 (hρ.hi 0 _ rfl).2 (hρ.hi 1 _ rfl).1 (hρ.hi 1 _ rfl).2 (hρ.hi 2 _ rfl).1 (hρ.hi 2 _ rfl).2 (hcap _ (List.mem_of_getElem? (i := 0) rfl)) (hcap _ (List.mem_of_getElem? (i := 1) rfl))

theorem walk (w : World) (a0 : RO) (k0 : a0.cks = [.int .i64, .int .i64, .int .i64]) (n0 : a0.a = none → a0.n = 0) (m0 : a0.n ≤ a0.cap) (t0 : RoAt w a0) (b0 : (a0.n : Int) ≤ 140737488355328) (a1 : RO) (k1 : a1.cks = [.int .i64, .int .i64, .int .i64]) (n1 : a1.a = none → a1.n = 0) (m1 : a1.n ≤ a1.cap) (t1 : RoAt w a1) (b1 : (a1.n : Int) ≤ 140737488355328) (a2 : Int) (w2 : (Lit.int .i64 a2).wf = true) :
    Calls Try.prog 5 #[.slice a0.a a0.n a0.cap, .slice a1.a a1.n a1.cap, .int .i64 a2] w fun e w' => e = .returned (.bool true) ∧ Below w.heap.size w w' := by
  refine law_of (cx := cxOf 2) ok ⟨rfl, rfl, rfl⟩ (ρ := envR Try.prog [(a0.n : Int), (a1.n : Int), a2, a0.c, a1.c, (a0.cap : Int), (a1.cap : Int)] [a0, a1]) (envR_ok (cx := rc.cx (cxOf 2)) rfl rfl (bnd_cons ⟨Int.natCast_nonneg _, b0⟩ (bnd_cons ⟨Int.natCast_nonneg _, b1⟩ (bnd_cons (wf_bd w2) (bnd_nil _)))) ⟨⟨k0, rfl, (Int.toNat_natCast _).symm, (Int.toNat_natCast _).symm, n0, fun g h => by cases h⟩, ⟨⟨k1, rfl, (Int.toNat_natCast _).symm, (Int.toNat_natCast _).symm, n1, fun g h => by cases h⟩, trivial⟩⟩) (fun d hd => by
    simp only [show lfIns rc.b rc.c rc.ls 0 0 0 = [⟨[.int .i64, .int .i64, .int .i64], .v 3, .v 0, .v 5, none⟩, ⟨[.int .i64, .int .i64, .int .i64], .v 4, .v 1, .v 6, none⟩] from rfl, List.mem_cons, List.not_mem_nil, or_false] at hd
    rcases hd with rfl | rfl
    · exact Int.ofNat_le.2 m0
    · exact Int.ofNat_le.2 m1) (roOk_of ⟨t0, ⟨t1, trivial⟩⟩) ?_
  rw [show rc.args = [.sl (.inp 0) 3 (.c 0) (.v 0) (some (.v 5)), .sl (.inp 1) 3 (.c 0) (.v 1) (some (.v 6)), .int .i64 (.v 2)] from rfl]
  simp only [SV.denL, SV.den, E.ev, map_addr_zero]
  rfl
theorem lifted (os : Os) (started : os.Started) (H : Type) (enc : TypeId × Value → H) :
    ReturnsInHanded {} Try.checked os 5 .any (Rows.traceTellsSpec.pre6 enc Try.prog Try.f5 Rows.traceTellsRow.domain false) (Rows.traceTellsSpec.post enc Try.prog Try.f5 false true false false) := by
  refine returnsInHanded_of_change_sized (C := Try.checked) own started (by kernel_rfl) Try.func5
    (ChangeSpec.witness6 (enc := enc) (C := Try.checked) false ⟨#[], #[.slice none 0 0, .slice none 0 0, .int .i64 0], []⟩ 8 (by kernel_rfl) (by kernel_rfl) (by kernel_rfl) (by kernel_rfl)) ?_
  intro W base args ds gs before hval0 hW hcnd hw0 _
  have hval : ∀ (j : Nat) t v, Try.f5.params[j]? = some t → args[j]? = some v → Value.okWide Try.prog W .any base t v := hval0
  have hW' := hW
  obtain ⟨p, q, hA0, hV, rfl, hfz, hnd⟩ := hW
  have hA : DataW.TrodAll enc Try.prog W 0 (fun _ => true) true Try.f5.params.toList args.toList ds p := hA0
  have hw := hw0
  rw [Try.params5] at hA hval hw
  obtain ⟨v0, vs0, d0, ds0, p0, q0, hargs, rfl, rfl, h0, r0⟩ := trodAll_cons hA
  have h0k := h0
  obtain ⟨v1, vs1, d1, ds1, p1, q1, rfl, rfl, rfl, h1, r1⟩ := trodAll_cons r0
  have h1k := h1
  obtain ⟨v2, vs2, d2, ds2, p2, q2, rfl, rfl, rfl, h2, r2⟩ := trodAll_cons r1
  have h2k := h2
  obtain ⟨rfl, rfl, rfl⟩ := trodAll_nil r2
  obtain rfl : args = #[v0, v1, v2] := by cases args; simp_all
  obtain ⟨rfl, rfl⟩ := trodVars_none hV
  obtain ⟨a0, k0, rfl, n0, m0, t0, b0, _⟩ := Go.Eng.open_row (ks := [.int .i64, .int .i64, .int .i64]) Try.underlying33 (ElT.struct Try.underlying40 (by kernel_rfl) (by kernel_rfl) (by first | exact ⟨by simp only [CkT]; kernel_rfl, by simp only [CkT]; kernel_rfl, by simp only [CkT]; kernel_rfl, trivial⟩) (by decide)) (by decide) (of_decide_eq_true (by kernel_rfl)) (by kernel_rfl) (hval 0 33 v0 rfl rfl) h0 (weights_of (gs := []) hw (j := 0) (t := 33) rfl rfl)
  obtain ⟨a1, k1, rfl, n1, m1, t1, b1, _⟩ := Go.Eng.open_row (ks := [.int .i64, .int .i64, .int .i64]) Try.underlying33 (ElT.struct Try.underlying40 (by kernel_rfl) (by kernel_rfl) (by first | exact ⟨by simp only [CkT]; kernel_rfl, by simp only [CkT]; kernel_rfl, by simp only [CkT]; kernel_rfl, trivial⟩) (by decide)) (by decide) (of_decide_eq_true (by kernel_rfl)) (by kernel_rfl) (hval 1 33 v1 rfl rfl) h1 (weights_of (gs := []) hw (j := 1) (t := 33) rfl rfl)
  obtain ⟨a2, rfl, rfl, rfl, w2⟩ := open_int Try.underlying3 (hval 2 3 v2 rfl rfl) h2
  clear hA0 hval0
  refine (walk W a0 k0 n0 m0 t0 b0 a1 k1 n1 m1 t1 b1 a2 w2).mono fun e W' ⟨he, hg⟩ => ?_
  subst he
  have hin0 : ∀ x ∈ p0, x ∈ p0 ++ (p1 ++ ([] ++ [])) ++ [] := fun x hx => by simp [hx]
  have hlt0 : ∀ x ∈ p0, x.block < W.heap.size := fun x hx => by simpa using hW'.lt x (by simp [hx])
  have hin1 : ∀ x ∈ p1, x ∈ p0 ++ (p1 ++ ([] ++ [])) ++ [] := fun x hx => by simp [hx]
  have hlt1 : ∀ x ∈ p1, x.block < W.heap.size := fun x hx => by simpa using hW'.lt x (by simp [hx])
  exact ⟨_, rfl, post_below (pa := _) (pv := []) hW' hg (fun _ _ _ => (trodAll_cons_mk (shut_bool Try.underlying4 _) trodAll_mk0)) (fun sp hsp => (trodAll_cons_mk (WideElems.Trod_stays laidOut (by kernel_rfl) (of_decide_eq_true (by kernel_rfl)) h0k (fun x hx => hg.same (hlt0 x hx)) (fun x hx => hsp x (hin0 x hx))) (trodAll_cons_mk (WideElems.Trod_stays laidOut (by kernel_rfl) (of_decide_eq_true (by kernel_rfl)) h1k (fun x hx => hg.same (hlt1 x hx)) (fun x hx => hsp x (hin1 x hx))) (trodAll_cons_mk (shut_int Try.underlying3 w2) trodAll_mk0)))) (fun _ _ => rfl) (by simp)
    (ok_one (by kernel_rfl) rfl (okWide_bool_mk Try.underlying4 _))⟩

theorem over : Rows.traceTellsRow.holds Try.pinned (OpenSpec.ofChange Rows.traceTellsSpec) :=
  OpenClaim.holds_of_wide 5 Try.f5 rfl rfl rfl rfl rfl rfl rfl ⟨rfl, rfl, rfl, rfl, rfl⟩ rfl rfl rfl rfl rfl (by kernel_rfl) Try.func5 (by kernel_rfl)
    (of_decide_eq_true (by kernel_rfl)) (by unfold Func.isWrapper; first | (rw [if_pos (by decide +kernel)]; kernel_rfl) | (rw [if_neg (by decide +kernel)]; exact ⟨rfl, rfl⟩))
    (fun os started H enc _ => lifted os started H enc)

/-- the statement -/
theorem proved : Rows.TraceTellsSaid :=
  over
#print axioms proved
end Go.Proofs.Ytlepjbacaffddaa.traceTells
