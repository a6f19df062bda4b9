/-
  The law TraceRows answers true at every input: the law is run by the engine (a symbolic run, proved sound), the tree of its answers, as a plain statement, is shown to hold. No condition.
-/
import Derived.Test.YtieocjnfjjgjeaaKa
import Derived.Test.YtieocjnfjjgjeaaKe
import Derived.Test.YtieocjnfjjgjeaaGab
import Derived.Test.YtieocjnfjjgjeaaGib
import Derived.Test.YtieocjnfjjgjeaaGp3
import Derived.WalkKit
import Derived.ProofKit
import Derived.OpenShut
import Derived.LaidMore
import Derived.Stop.Joined
import Derived.SevenTiedAt
import Derived.SizedLaws
namespace Go.Proofs.Ytieocjnfjjgjeaa.traceRows
open Go.ChangeShapes Go.WideShapes Go.ChangeAt Go.Eng Go.RowKit
set_option linter.unusedVariables false
set_option linter.unusedSimpArgs false
set_option maxRecDepth 100000
def rc : Rc := ⟨3, [none, none], [.row [.int .i64, .int .i64, .int .i64] 140737488355328, .int .i64], [], .one, [.bool (.c 1)]⟩
theorem okb : rc.ok = true := by kernel_rfl
noncomputable def us : SMs := fun Γ ins n => smH (cxG n Γ ins) [] (smAnd 6 (libRows Γ ins n) (smR (cxG n Γ ins) [CRRows17.rc, CRTop17.rc, CRHeats17.rc, CTTop.rc, CAwake17.rc]))
theorem us_ok : SMsOk us := fun Γ ins n => qJb (tabsG n Γ ins) (qZi _) (smAnd_ok (libRows_ok Γ ins n) (qJa (tabsG n Γ ins) (qZt CRRows17.okb (rc_n CRRows17.ok) (qZt CRTop17.okb (rc_n CRTop17.ok) (qZt CRHeats17.okb (rc_n CRHeats17.ok) (qZt CTTop.okb (rc_n CTTop.ok) (qZt CAwake17.okb (rc_n CAwake17.ok) (qZn _))))))))
def tree : TT (List E) :=
(.br (.b .lt .i64 (.c 300) (.v 0))
  (.leaf [(.c 1)])
  (.br (.b .le .i64 (.v 0) (.c 1000000))
  (.br (.b .le .i64 (.v 0) (.v 3))
  (.br (.f 161 (.f 158 (.v 2) (.v 0) (.c 0)) (.f 158 (.v 2) (.v 0) (.c 0)) (.f 157 (.v 2) (.v 0) (.c 0)))
  (.br (.b .le .i64 (.v 0) (.c 300))
  (.br (.f 161 (.f 160 (.v 2) (.v 0) (.v 1)) (.f 160 (.v 2) (.v 0) (.v 1)) (.f 159 (.v 2) (.v 0) (.v 1)))
  (.leaf [(.c 1)])
  (.leaf [(.c 0)]))
  (.bad 200))
  (.leaf [(.c 0)]))
  (.bad 200))
  (.bad 200)))

def P (n0 p1 c0 r0 : Int) : Prop :=
 (((qQq (decide (300 < n0))) ≠ 0 →
  ((1 : Int) ≠ 0 ↔ (1 : Int) ≠ 0) ∧ True) ∧ ((qQq (decide (300 < n0))) = 0 →
  (((qQq (decide (n0 ≤ 1000000))) ≠ 0 →
   (((qQq (decide (n0 ≤ r0))) ≠ 0 →
    (((smhZ (hrwZ c0 n0) (hrwZ c0 n0) (hrwN c0 n0)) ≠ 0 →
     (((qQq (decide (n0 ≤ 300))) ≠ 0 →
      (((smhZ (topZ c0 n0 p1) (topZ c0 n0 p1) (topN c0 n0 p1)) ≠ 0 →
       ((1 : Int) ≠ 0 ↔ (1 : Int) ≠ 0) ∧ True) ∧ ((smhZ (topZ c0 n0 p1) (topZ c0 n0 p1) (topN c0 n0 p1)) = 0 →
       ((0 : Int) ≠ 0 ↔ (1 : Int) ≠ 0) ∧ True))) ∧ ((qQq (decide (n0 ≤ 300))) = 0 →
      False))) ∧ ((smhZ (hrwZ c0 n0) (hrwZ c0 n0) (hrwN c0 n0)) = 0 →
     ((0 : Int) ≠ 0 ↔ (1 : Int) ≠ 0) ∧ True))) ∧ ((qQq (decide (n0 ≤ r0))) = 0 →
    False))) ∧ ((qQq (decide (n0 ≤ 1000000))) = 0 →
   False))))

theorem smh_self (c n : Int) : smhZ c c n = 1 := by unfold smhZ; rw [if_pos fun _ _ => rfl]
theorem holds (n0 p1 c0 r0 : Int) (l_n0 : 0 ≤ n0) (u_n0 : n0 ≤ 140737488355328) (l_p1 : -9223372036854775808 ≤ p1) (u_p1 : p1 ≤ 9223372036854775807) (h_n0 : n0 ≤ r0) : P n0 p1 c0 r0 := by
  unfold P
  simp only [smh_self]
  simp only [nrm, Int.reduceEq, Int.reduceNeg, reduceIte]
  repeat' (first | exact trivial | exact ⟨Iff.rfl, trivial⟩ | (refine And.intro (fun _ => ?_) (fun _ => ?_)) | omega)

theorem plain (i v ro p) : statR 2 rc tree ⟨i, fN, v, ro, p⟩ = P (i 0) (i 1) (i 2) (i 3) := by kernel_rfl
theorem ran : ranR us (fun _ _ => .auto) rc 2 tree = true := by kernel_rfl
theorem fineT : fineR 2 rc tree = true := by kernel_rfl
theorem ok : RcOk (cxOf 2) rc := okR us_ok ran fineT okb fun i v ro p hρ hcap hpre => by rw [plain]; have q := hρ.hi; exact holds _ _ _ _ (q 0 _ rfl).1 (q 0 _ rfl).2 (q 1 _ rfl).1 (q 1 _ rfl).2 (hcap _ (mg 0 rfl))

theorem walk (w : World) (a0 : RO) (k0 : a0.cks = [.int .i64, .int .i64, .int .i64]) (n0 : a0.a = none → a0.n = 0) (m0 : a0.n ≤ a0.cap) (t0 : RoAt w a0) (b0 : (a0.n : Int) ≤ 140737488355328) (a1 : Int) (w1 : (Lit.int .i64 a1).wf = true) :
    Calls Try.prog 3 #[.slice a0.a a0.n a0.cap, .int .i64 a1] w fun e w' => e = .returned (.bool true) ∧ Below w.heap.size w w' := by
  refine law_of (cx := cxOf 2) ok ⟨rfl, rfl, rfl⟩ (ρ := envR Try.prog [(a0.n : Int), a1, a0.c, (a0.cap : Int)] [a0]) (envR_ok (cx := rc.cx (cxOf 2)) rfl rfl (bnd_cons ⟨Int.natCast_nonneg _, b0⟩ (bnd_cons (wf_bd w1) (bnd_nil _))) ⟨⟨k0, rfl, (Int.toNat_natCast _).symm, (Int.toNat_natCast _).symm, n0, fun g h => by cases h⟩, trivial⟩) (fun d hd => by
    simp only [show qKj rc.b rc.c rc.ls 0 0 0 = [⟨[.int .i64, .int .i64, .int .i64], .v 2, .v 0, .v 3, none⟩] from rfl, List.mem_cons, List.not_mem_nil, or_false] at hd
    rcases hd with rfl
    · exact Int.ofNat_le.2 m0) (roOk_of ⟨t0, trivial⟩) ?_
  rw [show rc.args = [.sl (.inp 0) 3 (.c 0) (.v 0) (some (.v 3)), .int .i64 (.v 1)] from rfl]
  simp only [SV.denL, SV.den, E.ev, map_addr_zero]
  rfl
theorem lifted (os : Os) (started : os.Started) (H : Type) (enc : TypeId × Value → H) :
    ReturnsInHanded {} Try.checked os 3 .any (Rows.traceRowsSpec.pre6 enc Try.prog Try.f3 Rows.traceRowsRow.domain false) (Rows.traceRowsSpec.post enc Try.prog Try.f3 false true false false) := by
  refine returnsInHanded_of_change_sized (C := Try.checked) own started (by kernel_rfl) Try.func3
    (ChangeSpec.witness6 (enc := enc) (C := Try.checked) false ⟨#[], #[.slice none 0 0, .int .i64 0], []⟩ 8 (by kernel_rfl) (by kernel_rfl) (by kernel_rfl) (by kernel_rfl)) ?_
  intro W base args ds gs before hval0 hW hcnd hw0 _
  have hval : ∀ (j : Nat) t v, Try.f3.params[j]? = some t → args[j]? = some v → Value.okWide Try.prog W .any base t v := hval0
  have hW' := hW
  obtain ⟨p, q, hA0, hV, rfl, hfz, hnd⟩ := hW
  have hA : DataW.TrodAll enc Try.prog W 0 (fun _ => true) true Try.f3.params.toList args.toList ds p := hA0
  have hw := hw0
  rw [Try.params3] at hA hval hw
  obtain ⟨v0, vs0, d0, ds0, p0, q0, hargs, rfl, rfl, h0, r0⟩ := trodAll_cons hA
  have h0k := h0
  obtain ⟨v1, vs1, d1, ds1, p1, q1, rfl, rfl, rfl, h1, r1⟩ := trodAll_cons r0
  have h1k := h1
  obtain ⟨rfl, rfl, rfl⟩ := trodAll_nil r1
  obtain rfl : args = #[v0, v1] := by cases args; simp_all
  obtain ⟨rfl, rfl⟩ := trodVars_none hV
  obtain ⟨a0, k0, rfl, n0, m0, t0, b0, _⟩ := Go.Eng.open_row (ks := [.int .i64, .int .i64, .int .i64]) Try.underlying22 (ElT.struct Try.underlying30 (by kernel_rfl) (by kernel_rfl) (by first | exact ⟨by simp only [CkT]; kernel_rfl, by simp only [CkT]; kernel_rfl, by simp only [CkT]; kernel_rfl, trivial⟩) (by decide)) (by decide) (of_decide_eq_true (by kernel_rfl)) (by kernel_rfl) (hval 0 22 v0 rfl rfl) h0 (weights_of (gs := []) hw (j := 0) (t := 22) rfl rfl)
  obtain ⟨a1, rfl, rfl, rfl, w1⟩ := open_int Try.underlying3 (hval 1 3 v1 rfl rfl) h1
  clear hA0 hval0
  refine (walk W a0 k0 n0 m0 t0 b0 a1 w1).mono fun e W' ⟨he, hg⟩ => ?_
  subst he
  have hin0 : ∀ x ∈ p0, x ∈ p0 ++ ([] ++ []) ++ [] := fun x hx => by simp [hx]
  have hlt0 : ∀ x ∈ p0, x.block < W.heap.size := fun x hx => by simpa using hW'.lt x (by simp [hx])
  exact ⟨_, rfl, post_below (pa := _) (pv := []) hW' hg (fun _ _ _ => (trodAll_cons_mk (shut_bool Try.underlying4 _) trodAll_mk0)) (fun sp hsp => (trodAll_cons_mk (WideElems.Trod_stays laidOut (by kernel_rfl) (of_decide_eq_true (by kernel_rfl)) h0k (fun x hx => hg.same (hlt0 x hx)) (fun x hx => hsp x (hin0 x hx))) (trodAll_cons_mk (shut_int Try.underlying3 w1) trodAll_mk0))) (fun _ _ => rfl) (by simp)
    (ok_one (by kernel_rfl) rfl (okWide_bool_mk Try.underlying4 _))⟩

theorem over : Rows.traceRowsRow.holds Try.pinned (OpenSpec.ofChange Rows.traceRowsSpec) :=
  OpenClaim.holds_of_wide 3 Try.f3 rfl rfl rfl rfl rfl rfl rfl ⟨rfl, rfl, rfl, rfl, rfl⟩ rfl rfl rfl rfl rfl (by kernel_rfl) Try.func3 (by kernel_rfl)
    (of_decide_eq_true (by kernel_rfl)) (by unfold Func.isWrapper; first | (rw [if_pos (by decide +kernel)]; kernel_rfl) | (rw [if_neg (by decide +kernel)]; exact ⟨rfl, rfl⟩))
    (fun os started H enc _ => lifted os started H enc)

/-- the statement -/
theorem proved : Rows.TraceRowsSaid :=
  over
#print axioms proved
end Go.Proofs.Ytieocjnfjjgjeaa.traceRows
