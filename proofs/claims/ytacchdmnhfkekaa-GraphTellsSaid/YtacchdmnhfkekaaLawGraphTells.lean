/-
  The law GraphTells answers true at every input: the law is run by the engine (a symbolic run, proved sound), the tree of its answers, as a plain statement, is shown to hold. No condition.
-/
import Derived.Test.YtacchdmnhfkekaaKb
import Derived.Test.YtacchdmnhfkekaaKd
import Derived.Test.YtacchdmnhfkekaaKe
import Derived.Test.YtacchdmnhfkekaaKf
import Derived.Test.YtacchdmnhfkekaaKg
import Derived.Test.YtacchdmnhfkekaaGab
import Derived.Test.YtacchdmnhfkekaaGib
import Derived.Test.YtacchdmnhfkekaaGp3
import Derived.WalkKit
import Derived.ProofKit
import Derived.OpenShut
import Derived.LaidMore
import Derived.Stop.Joined
import Derived.SevenTiedAt
import Derived.SizedLaws
namespace Go.Proofs.Ytacchdmnhfkekaa.graphTells
open Go.ChangeShapes Go.WideShapes Go.ChangeAt Go.Eng Go.RowKit
set_option linter.unusedVariables false
set_option linter.unusedSimpArgs false
set_option maxRecDepth 100000
def rc : Rc := ⟨3, [none, none, none], [.row [.int .u32] 140737488355328, .int .i64, .int .i64], [], .one, [.bool (.c 1)]⟩
theorem okb : rc.ok = true := by kernel_rfl
noncomputable def us : SMs := fun Γ ins n => smH (cxG n Γ ins) [] (smAnd 9 (libGReach Γ ins n) (smAnd 11 (libGAhead Γ ins n) (smAnd 14 (libGBacks Γ ins n) (smAnd 16 (libGLoop Γ ins n) (smAnd 18 (libGCyc Γ ins n) (smR (cxG n Γ ins) [CGNext.rc, CRNext18.rc, CRReached18.rc, CRAhead18.rc, CRBacks18.rc, CRLoop18.rc, CRCyc18.rc, CRSame17.rc, CRFixes18.rc, CRBools18.rc, CAwake18.rc]))))))
theorem us_ok : SMsOk us := fun Γ ins n => qXi (tabsG n Γ ins) (qJn _) (qXm (libGReach_ok CGNext.nextC Γ ins n) (qXm (libGAhead_ok CGNext.nextC Γ ins n) (qXm (libGBacks_ok CGNext.nextC Γ ins n) (qXm (libGLoop_ok CGNext.nextC Γ ins n) (qXm (libGCyc_ok CGNext.nextC Γ ins n) (qXe (tabsG n Γ ins) (qQn CGNext.okb (rc_n CGNext.ok) (qQn CRNext18.okb (rc_n CRNext18.ok) (qQn CRReached18.okb (rc_n CRReached18.ok) (qQn CRAhead18.okb (rc_n CRAhead18.ok) (qQn CRBacks18.okb (rc_n CRBacks18.ok) (qQn CRLoop18.okb (rc_n CRLoop18.ok) (qQn CRCyc18.okb (rc_n CRCyc18.ok) (qQn CRSame17.okb (rc_n CRSame17.ok) (qQn CRFixes18.okb (rc_n CRFixes18.ok) (qQn CRBools18.okb (rc_n CRBools18.ok) (qQn CAwake18.okb (rc_n CAwake18.ok) (qJo _))))))))))))))))))
def Q0 : E := (.f 163 (.v 3) (.v 0) (.v 1))
def Q1 : E := (tC (.c (-1)) (.c 0))
def Q2 : E := (tC (.c 0) Q1)
def Q3 : E := (.f 164 (.v 3) (.v 0) Q2)
def Q4 : E := (tC (.v 1) (tC (.v 2) (.c 0)))
def Q5 : E := (.f 165 (.v 3) (.v 0) Q4)
def Q6 : E := (.f 167 (.v 3) (.v 0) (.c 0))
def Q7 : E := (.f 169 (.v 3) (.v 0) (.v 1))
def tree : TT (List E) :=
 (.br (tk (.c 26) (.v 0)) (.leaf [(.c 1)]) (.br (tl (.v 0) (.c 1000000)) (.br (tl (.v 0) (.v 4)) (.br (.nt (.f 32 Q0 Q0 (.f 162 (.v 3) (.v 0) (.v 1)))) (.leaf [(.c 0)]) (.br (tl (.v 0) (.c 64)) (.br (tl (.v 0) (.c 1000)) (.br (.nt (.f 62 Q3 Q3 (.v 0))) (.leaf [(.c 0)]) (.new 1000 Q5 (.br (tn (.nt Q5) (.nt (.cl 1000 0 1))) (.leaf [(.c 0)]) (.br (.f 149 Q6 Q6 (.f 166 (.v 3) (.v 0) (.c 0))) (.br (.f 32 Q7 Q7 (.f 168 (.v 3) (.v 0) (.v 1))) (.leaf [(.c 1)]) (.leaf [(.c 0)])) (.leaf [(.c 0)]))))) (.bad 200)) (.bad 200))) (.bad 200)) (.bad 200)))


def P (a b c d e : Int) : Prop :=
 (Pb (Pl 26 a) Pt (Pm (PL a 1000000) (Pm (PL a e) (Pb (Pe (sameZ (nxZ d a b) (nxZ d a b) (nxN d a b)) 0) Pf (Pm (PL a 64) (Pm (PL a 1000) (Pb (Pe (sameB (gfmZ d a (kZ 0 (kZ (-1) 0))) (gfmZ d a (kZ 0 (kZ (-1) 0))) a) 0) Pf (Pn (ahdZ d a (kZ b (kZ c 0))) 0 1 fun y0 => (Pb (Pd (Pe (ahdZ d a (kZ b (kZ c 0))) 0) (Pe y0 0)) Pf (Pb (smfZ (bkZ d a) (bkZ d a) (bkN d a)) (Pb (sameZ (lpZ d a b) (lpZ d a b) (lpN d a b)) Pt Pf) Pf))))))))))

theorem holds (n0 p1 p2 c0 r0 : Int) (l_n0 : 0 ≤ n0) (u_n0 : n0 ≤ 140737488355328) (l_p1 : -9223372036854775808 ≤ p1) (u_p1 : p1 ≤ 9223372036854775807) (l_p2 : -9223372036854775808 ≤ p2) (u_p2 : p2 ≤ 9223372036854775807) (h_n0 : n0 ≤ r0) : P n0 p1 p2 c0 r0 := by
  delta P Pb Pm Pn Pf Pt PL Pl Pe Pd kZ
  simp only [nrm, nro, Int.reduceEq, Int.reduceNeg, reduceIte, sameZ_refl, sameB_refl, smf_self]
  repeat' (first | omega | exact trivial | apply And.intro | intro _)
  all_goals simp_all

theorem plain (i v ro p) : statR 2 rc tree ⟨i, fN, v, ro, p⟩ = P (i 0) (i 1) (i 2) (i 3) (i 4) := by kernel_rfl
theorem ran : ranR us (fun f _ => if [5].contains f then .unroll 400 else .auto) rc 2 tree = true := by kernel_rfl
theorem fineT : fineR 2 rc tree = true := by kernel_rfl
theorem ok : RcOk (cxOf 2) rc := okR us_ok ran fineT okb fun i v ro p hρ hcap hpre => by rw [plain]; have q := hρ.hi; exact holds _ _ _ _ _ (q 0 _ rfl).1 (q 0 _ rfl).2 (q 1 _ rfl).1 (q 1 _ rfl).2 (q 2 _ rfl).1 (q 2 _ rfl).2 (hcap _ (mg 0 rfl))

theorem walk (w : World) (a0 : RO) (k0 : a0.cks = [.int .u32]) (n0 : a0.a = none → a0.n = 0) (m0 : a0.n ≤ a0.cap) (t0 : RoAt w a0) (b0 : (a0.n : Int) ≤ 140737488355328) (a1 : Int) (w1 : (Lit.int .i64 a1).wf = true) (a2 : Int) (w2 : (Lit.int .i64 a2).wf = true) :
    Calls Try.prog 3 #[.slice a0.a a0.n a0.cap, .int .i64 a1, .int .i64 a2] w fun e w' => e = .returned (.bool true) ∧ Below w.heap.size w w' := by
  refine law_of (cx := cxOf 2) ok ⟨rfl, rfl, rfl⟩ (ρ := envR Try.prog [(a0.n : Int), a1, a2, a0.c, (a0.cap : Int)] [a0]) (envR_ok (cx := rc.cx (cxOf 2)) rfl rfl (bnd_cons ⟨Int.natCast_nonneg _, b0⟩ (bnd_cons (wf_bd w1) (bnd_cons (wf_bd w2) (bnd_nil _)))) ⟨⟨k0, rfl, (Int.toNat_natCast _).symm, (Int.toNat_natCast _).symm, n0, fun g h => by cases h⟩, trivial⟩) (fun d hd => by
    simp only [show qXv rc.b rc.c rc.ls 0 0 0 = [⟨[.int .u32], .v 3, .v 0, .v 4, none⟩] from rfl, List.mem_cons, List.not_mem_nil, or_false] at hd
    rcases hd with rfl
    · exact Int.ofNat_le.2 m0) (roOk_of ⟨t0, trivial⟩) ?_
  rw [show rc.args = [.sl (.inp 0) 1 (.c 0) (.v 0) (some (.v 4)), .int .i64 (.v 1), .int .i64 (.v 2)] from rfl]
  simp only [SV.denL, SV.den, E.ev, qXo]
  rfl
theorem lifted (os : Os) (started : os.Started) (H : Type) (enc : TypeId × Value → H) :
    ReturnsInHanded {} Try.checked os 3 .any (Rows.graphTellsSpec.pre6 enc Try.prog Try.f3 Rows.graphTellsRow.domain false) (Rows.graphTellsSpec.post enc Try.prog Try.f3 false true false false) := by
  refine returnsInHanded_of_change_sized (C := Try.checked) own started (by kernel_rfl) Try.func3
    (ChangeSpec.witness6 (enc := enc) (C := Try.checked) false ⟨#[], #[.slice none 0 0, .int .i64 0, .int .i64 0], []⟩ 8 (by kernel_rfl) (by kernel_rfl) (by kernel_rfl) (by kernel_rfl)) ?_
  intro W base args ds gs before hval0 hW hcnd hw0 _
  have hval : ∀ (j : Nat) t v, Try.f3.params[j]? = some t → args[j]? = some v → Value.okWide Try.prog W .any base t v := hval0
  have hW' := hW
  obtain ⟨p, q, hA0, hV, rfl, hfz, hnd⟩ := hW
  have hA : DataW.TrodAll enc Try.prog W 0 (fun _ => true) true Try.f3.params.toList args.toList ds p := hA0
  have hw := hw0
  rw [Try.params3] at hA hval hw
  obtain ⟨v0, vs0, d0, ds0, p0, q0, hargs, rfl, rfl, h0, r0⟩ := trodAll_cons hA
  have h0k := h0
  obtain ⟨v1, vs1, d1, ds1, p1, q1, rfl, rfl, rfl, h1, r1⟩ := trodAll_cons r0
  have h1k := h1
  obtain ⟨v2, vs2, d2, ds2, p2, q2, rfl, rfl, rfl, h2, r2⟩ := trodAll_cons r1
  have h2k := h2
  obtain ⟨rfl, rfl, rfl⟩ := trodAll_nil r2
  obtain rfl : args = #[v0, v1, v2] := by cases args; simp_all
  obtain ⟨rfl, rfl⟩ := trodVars_none hV
  obtain ⟨a0, k0, rfl, n0, m0, t0, b0, _⟩ := Go.Eng.open_row (ks := [.int .u32]) Try.underlying22 (ElT.one Try.underlying35 (by kernel_rfl)) (by decide) (of_decide_eq_true (by kernel_rfl)) (by kernel_rfl) (hval 0 22 v0 rfl rfl) h0 (weights_of (gs := []) hw (j := 0) (t := 22) rfl rfl)
  obtain ⟨a1, rfl, rfl, rfl, w1⟩ := open_int Try.underlying3 (hval 1 3 v1 rfl rfl) h1
  obtain ⟨a2, rfl, rfl, rfl, w2⟩ := open_int Try.underlying3 (hval 2 3 v2 rfl rfl) h2
  clear hA0 hval0
  refine (walk W a0 k0 n0 m0 t0 b0 a1 w1 a2 w2).mono fun e W' ⟨he, hg⟩ => ?_
  subst he
  have hin0 : ∀ x ∈ p0, x ∈ p0 ++ ([] ++ ([] ++ [])) ++ [] := fun x hx => by simp [hx]
  have hlt0 : ∀ x ∈ p0, x.block < W.heap.size := fun x hx => by simpa using hW'.lt x (by simp [hx])
  exact ⟨_, rfl, post_below (pa := _) (pv := []) hW' hg (fun _ _ _ => (trodAll_cons_mk (shut_bool Try.underlying4 _) trodAll_mk0)) (fun sp hsp => (trodAll_cons_mk (WideElems.Trod_stays laidOut (by kernel_rfl) (of_decide_eq_true (by kernel_rfl)) h0k (fun x hx => hg.same (hlt0 x hx)) (fun x hx => hsp x (hin0 x hx))) (trodAll_cons_mk (shut_int Try.underlying3 w1) (trodAll_cons_mk (shut_int Try.underlying3 w2) trodAll_mk0)))) (fun _ _ => rfl) (by simp)
    (ok_one (by kernel_rfl) rfl (okWide_bool_mk Try.underlying4 _))⟩

theorem over : Rows.graphTellsRow.holds Try.pinned (OpenSpec.ofChange Rows.graphTellsSpec) :=
  OpenClaim.holds_of_wide 3 Try.f3 rfl rfl rfl rfl rfl rfl rfl ⟨rfl, rfl, rfl, rfl, rfl⟩ rfl rfl rfl rfl rfl (by kernel_rfl) Try.func3 (by kernel_rfl)
    (of_decide_eq_true (by kernel_rfl)) (by unfold Func.isWrapper; first | (rw [if_pos (by decide +kernel)]; kernel_rfl) | (rw [if_neg (by decide +kernel)]; exact ⟨rfl, rfl⟩))
    (fun os started H enc _ => lifted os started H enc)

/-- the statement -/
theorem proved : Rows.GraphTellsSaid :=
  over
#print axioms proved
end Go.Proofs.Ytacchdmnhfkekaa.graphTells
