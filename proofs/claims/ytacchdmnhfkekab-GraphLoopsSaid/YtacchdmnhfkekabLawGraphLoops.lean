/-
  The law GraphLoops answers true at every input: the law is run by the engine (a symbolic run, proved sound), the tree of its answers, as a plain statement, is shown to hold. No condition.
-/
import Derived.Test.YtacchdmnhfkekabKb
import Derived.Test.YtacchdmnhfkekabGab
import Derived.Test.YtacchdmnhfkekabGib
import Derived.Test.YtacchdmnhfkekabGp2
import Derived.WalkKit
import Derived.ProofKit
import Derived.OpenShut
import Derived.LaidMore
import Derived.Stop.Joined
import Derived.SevenTiedAt
import Derived.SizedLaws
namespace Go.Proofs.Ytacchdmnhfkekab.graphLoops
open Go.ChangeShapes Go.WideShapes Go.ChangeAt Go.Eng Go.RowKit
set_option linter.unusedVariables false
set_option linter.unusedSimpArgs false
set_option maxRecDepth 100000
def rc : Rc := ⟨3, [none], [.row [.int .u32] 140737488355328], [], .one, [.bool (.c 1)]⟩
theorem okb : rc.ok = true := by kernel_rfl
def mk3_10 : qJj := [([0, 8], .num (0) (4611686018427387904)), ([0, 6], .num (0) (1)), ([0, 7], .num (0) (1)), ([0, 28], .wilds 44)]
noncomputable def us : SMs := fun Γ ins n => smH (cxG n Γ ins) [] (smAnd 7 (libGAhead Γ ins n) (smAnd 5 (libGBacks Γ ins n) (smAnd 6 (libGLoop Γ ins n) (smAnd 8 (libGCyc Γ ins n) (smR (cxG n Γ ins) [CGNext.rc, CAwake18.rc])))))
theorem us_ok : SMsOk us := fun Γ ins n => smH_ok (tabsG n Γ ins) (rhs_nil _) (qXr (libGAhead_ok CGNext.nextC Γ ins n) (qXr (libGBacks_ok CGNext.nextC Γ ins n) (qXr (libGLoop_ok CGNext.nextC Γ ins n) (qXr (libGCyc_ok CGNext.nextC Γ ins n) (smR_ok (tabsG n Γ ins) (rcs_cons CGNext.okb (rc_n CGNext.ok) (rcs_cons CAwake18.okb (rc_n CAwake18.ok) (rcs_nil _))))))))
def Q0 : E := (.cl 1000 0 4611686018427387904)
def Q1 : E := (.f 166 (.v 1) (.v 0) (.c 0))
def Q2 : E := (.cl 1004 0 4611686018427387904)
def Q3 : E := (.f 167 (.v 1) (.v 0) (.c 0))
def Q4 : E := (tR Q3 Q0)
def Q5 : E := (tR Q4 (.c 1))
def Q6 : E := (t6 Q5)
def Q7 : E := (.f 169 (.v 1) (.v 0) Q6)
def Q8 : E := (tR Q7 Q2)
def Q9 : E := (t6 Q8)
def Q10 : E := (.cl 1006 (-9223372036854775808) 9223372036854775807)
def Q11 : E := (.cl 1007 (-9223372036854775808) 9223372036854775807)
def Q12 : E := (tp Q2 (.c 1))
def Q13 : E := (tl Q12 (.c 4611686018427387904))
def Q14 : E := (tR Q4 (.c 0))
def Q15 : E := (t6 Q14)
def Q16 : E := (.cl 1008 (-9223372036854775808) 9223372036854775807)
def Q17 : E := (tC Q10 (.c 0))
def Q18 : E := (te Q10 Q11)
def Q19 : E := (tC Q11 Q17)
def Q20 : E := (.f 165 (.v 1) (.v 0) Q19)
def Q21 : E := (.nt Q20)
def Q22 : E := (tp Q0 (.c 1))
def tree : TT (List E) :=
 (.br (tk (.c 30) (.v 0)) (.leaf [(.c 1)]) (.br (tl (.v 0) (.v 2)) (.br (tl (.v 0) (.c 64)) (.loop ⟨1000, [some (0, 4611686018427387904)], [(.c 0)], 1010⟩ (.br (tk Q0 Q1) (.loop ⟨1002, [some (0, 1), some (0, 1), some (0, 4611686018427387904)], [(.c 0), (.c 0), (.c 0)], 1009⟩ (.br (tk Q2 (.f 168 (.v 1) (.v 0) Q6)) (.br (.cl 1002 0 1) (.br (.cl 1003 0 1) (.new 1006 Q6 (.new 1007 Q9 (.br (.nt (.f 165 (.v 1) (.v 0) (tC Q10 (tC Q11 (.c 0))))) (.exit 0) (.br Q13 (.back [(.c 1), (.c 1), Q12]) (.bad 303))))) (.new 1006 Q9 (.new 1007 Q15 (.new 1008 Q6 (.br (.nt (.f 165 (.v 1) (.v 0) (tC Q16 Q17))) (.exit 1) (.br Q13 (.back [(.c 1), Q18, Q12]) (.bad 303))))))) (.new 1006 Q9 (.new 1007 Q6 (.br (.cl 1003 0 1) (.br Q21 (.exit 2) (.br Q13 (.back [Q18, (.c 1), Q12]) (.bad 303))) (.new 1008 Q15 (.br Q21
 (.exit 3) (.br Q13 (.back [Q18, (te Q10 Q16), Q12]) (.bad 303)))))))) (.exit 4)) (.br (te (.v 1009) (.c 0)) (.exit 0) (.br (te (.v 1009) (.c 1)) (.exit 1) (.br (te (.v 1009) (.c 2)) (.exit 2) (.br (te (.v 1009) (.c 3)) (.exit 3) (.br (.nt (.cl 1002 0 1)) (.exit 4) (.br (.nt (.cl 1003 0 1)) (.exit 5) (.br (tl Q22 (.c 4611686018427387904)) (.back [Q22]) (.bad 303))))))))) (.exit 6)) (.br (te (.v 1010) (.c 0)) (.leaf [(.c 0)]) (.br (te (.v 1010) (.c 1)) (.leaf [(.c 0)]) (.br (te (.v 1010) (.c 2)) (.leaf [(.c 0)]) (.br (te (.v 1010) (.c 3)) (.leaf [(.c 0)]) (.br (te (.v 1010) (.c 4)) (.leaf [(.c 0)]) (.br (te (.v 1010) (.c 5)) (.leaf [(.c 0)]) (.br (te Q1 (.c 0)) (.leaf [(.c 1)]) (.br (.f 170 (.v 1) (.v 0) (.c 0)) (.leaf [(.c 1)]) (.leaf [(.c 0)])))))))))) (.bad 200)) (.bad 200)))

def sq0 (y2 y3 y0 : Int) (m0 : Nat) (I1000 : Int → Nat → Prop) : Prop := (Pb (Pe y2 0) Pf (Pb (Pe y3 0) Pf (Pm (PL (y0 + 1) 4611686018427387904) (∃ m', m' < m0 ∧ I1000 (y0 + 1) m'))))
def P (a b c : Int) : Prop :=
 (Pb (Pl 30 a) Pt (Pm (PL a c) (Pm (PL a 64) (∃ I1000 : Int → Nat → Prop, (∃ m, I1000 0 m) ∧ ∀ y0 : Int, ∀ m0, ((0 ≤ y0 ∧ y0 ≤ 4611686018427387904) ∧ True) → I1000 y0 m0 → (Pb (Pl y0 (bkN b a)) (∃ I1002 : Int → Int → Int → Nat → Prop, (∃ m, I1002 0 0 0 m) ∧ ∀ y2 y3 y4 : Int, ∀ m2, ((0 ≤ y2 ∧ y2 ≤ 1) ∧ (0 ≤ y3 ∧ y3 ≤ 1) ∧ (0 ≤ y4 ∧ y4 ≤ 4611686018427387904) ∧ True) → I1002 y2 y3 y4 m2 → (Pb (Pl y4 (lpN b a (W6 (rdZ (rdZ (bkZ b a) y0) 1)))) (Pb y2 (Pb y3 (Pn (W6 (rdZ (rdZ (bkZ b a) y0) 1)) (-9223372036854775808) 9223372036854775807 fun y6 => Pn (W6 (rdZ (lpZ b a (W6 (rdZ (rdZ (bkZ b a) y0) 1))) y4)) (-9223372036854775808) 9223372036854775807 fun y7 => (Pb (Pe (ahdZ b a (kZ y6 (kZ y7 0))) 0) (Pb (Pe (0 : Int) 0) Pf (Pb (Pe (0 : Int) 1) Pf (Pb (Pe (0 : Int) 2) Pf (Pb (Pe (0 : Int) 3) Pf (sq0
 y2 y3 y0 m0 I1000))))) (Pm (PL (y4 + 1) 4611686018427387904) (∃ m', m' < m2 ∧ I1002 1 1 (y4 + 1) m')))) (Pn (W6 (rdZ (lpZ b a (W6 (rdZ (rdZ (bkZ b a) y0) 1))) y4)) (-9223372036854775808) 9223372036854775807 fun y6 => Pn (W6 (rdZ (rdZ (bkZ b a) y0) 0)) (-9223372036854775808) 9223372036854775807 fun y7 => Pn (W6 (rdZ (rdZ (bkZ b a) y0) 1)) (-9223372036854775808) 9223372036854775807 fun y8 => (Pb (Pe (ahdZ b a (kZ y8 (kZ y6 0))) 0) (Pb (Pe (1 : Int) 0) Pf (Pb (Pe (1 : Int) 1) Pf (Pb (Pe (1 : Int) 2) Pf (Pb (Pe (1 : Int) 3) Pf (sq0 y2 y3 y0 m0 I1000))))) (Pm (PL (y4 + 1) 4611686018427387904) (∃ m', m' < m2 ∧ I1002 1 (Pe y6 y7) (y4 + 1) m'))))) (Pn (W6 (rdZ (lpZ b a (W6 (rdZ (rdZ (bkZ b a) y0) 1))) y4)) (-9223372036854775808) 9223372036854775807 fun y6 => Pn (W6 (rdZ (rdZ (bkZ b a) y0) 1))
 (-9223372036854775808) 9223372036854775807 fun y7 => (Pb y3 (Pb (Pe (ahdZ b a (kZ y7 (kZ y6 0))) 0) (Pb (Pe (2 : Int) 0) Pf (Pb (Pe (2 : Int) 1) Pf (Pb (Pe (2 : Int) 2) Pf (Pb (Pe (2 : Int) 3) Pf (sq0 y2 y3 y0 m0 I1000))))) (Pm (PL (y4 + 1) 4611686018427387904) (∃ m', m' < m2 ∧ I1002 (Pe y6 y7) 1 (y4 + 1) m'))) (Pn (W6 (rdZ (rdZ (bkZ b a) y0) 0)) (-9223372036854775808) 9223372036854775807 fun y8 => (Pb (Pe (ahdZ b a (kZ y7 (kZ y6 0))) 0) (Pb (Pe (3 : Int) 0) Pf (Pb (Pe (3 : Int) 1) Pf (Pb (Pe (3 : Int) 2) Pf (Pb (Pe (3 : Int) 3) Pf (sq0 y2 y3 y0 m0 I1000))))) (Pm (PL (y4 + 1) 4611686018427387904) (∃ m', m' < m2 ∧ I1002 (Pe y6 y7) (Pe y6 y8) (y4 + 1) m'))))))) (Pb (Pe (4 : Int) 0) Pf (Pb (Pe (4 : Int) 1) Pf (Pb (Pe (4 : Int) 2) Pf (Pb (Pe (4 : Int) 3) Pf (sq0 y2 y3 y0 m0 I1000))))))) (Pb
 (Pe (bkN b a) 0) Pt (Pb (cycZ b a) Pt Pf)))))))

set_option maxHeartbeats 4000000 in
theorem holds (n0 c0 r0 : Int) (l_n0 : 0 ≤ n0) (u_n0 : n0 ≤ 140737488355328) (h_n0 : n0 ≤ r0) : P n0 c0 r0 := by
  delta P sq0 Pb Pm Pn Pf Pt PL Pl Pe W6 kZ
  simp only [nrm, nro, Int.reduceEq, Int.reduceNeg, reduceIte]
  refine ⟨fun _ => trivial, fun hn => ⟨h_n0, by omega, ?_⟩⟩
  have hn : n0 ≤ 1000 := by omega
  refine ⟨fun i m => (0 ≤ i ∧ i ≤ bkN c0 n0) ∧ m = (bkN c0 n0 - i).toNat, ⟨_, ⟨by omega, (bkN_bd c0 n0).1⟩, rfl⟩, ?_⟩
  rintro i m ⟨i8, i9⟩ ⟨⟨i0, i1⟩, rfl⟩
  have hN := bkN_bd c0 n0
  refine ⟨fun ilt => ?_, fun _ => ⟨fun _ => trivial, fun h => bk_cyc hn (by omega)⟩⟩
  obtain ⟨b, t, hat, hw0, hw1, hbn, htn⟩ := bk_at (c := c0) hn i0 ilt
  simp only [hw0, hw1]
  have hm := List.mem_of_getElem? hat
  have hL := lpN_bd c0 n0 t
  obtain ⟨jt, jt1, jt2⟩ := lp_has hn htn (lp_self hn hm).1
  obtain ⟨jb, jb1, jb2⟩ := lp_has hn hbn (lp_self hn hm).2
  refine ⟨fun hd fr k m => (0 ≤ k ∧ k ≤ lpN c0 n0 t) ∧ ((jt : Int) < k → hd ≠ 0) ∧ ((jb : Int) < k → fr ≠ 0) ∧ m = (lpN c0 n0 t - k).toNat, ⟨_, ⟨by omega, hL.1⟩, fun h => by omega, fun h => by omega, rfl⟩, ?_⟩
  rintro hd fr k m ⟨⟨d0, d1⟩, ⟨f0, f1⟩, ⟨k8, k9⟩⟩ ⟨⟨k0, k1⟩, hD, hF, rfl⟩
  refine ⟨fun klt => ?_, fun kge => ?_⟩
  · obtain ⟨x, hx, hxw, hxn, hxP⟩ := lp_at (c := c0) (h := t) hn k0 klt
    simp only [hxw]
    have hA : ahdZ c0 n0 (qQw (t : Int) (qQw (x : Int) 0)) ≠ 0 := ahd_ne.2 (lp_head hn hm hxn hxP)
    have ht : (jt : Int) = k → (x : Int) = t := fun e => by
      have : jt = k.toNat := by omega
      rw [this, hx] at jt2
      exact Option.some.inj jt2
    have hb : (jb : Int) = k → (x : Int) = b := fun e => by
      have : jb = k.toNat := by omega
      rw [this, hx] at jb2
      exact Option.some.inj jb2
    have one : (1 : Int) ≠ 0 := by omega
    have bz : ∀ y : Int, (x : Int) = y → qQz ((x : Int) == y) ≠ 0 := fun y e => by rw [e]; simp [qQz]
    have et : hd = 0 → (jt : Int) < k + 1 → qQz ((x : Int) == t) ≠ 0 := fun e h => bz _ (ht (by
      rcases Int.lt_or_le jt k with g | g
      · exact absurd e (hD g)
      · omega))
    have eb : fr = 0 → (jb : Int) < k + 1 → qQz ((x : Int) == b) ≠ 0 := fun e h => bz _ (hb (by
      rcases Int.lt_or_le jb k with g | g
      · exact absurd e (hF g)
      · omega))
    have hm1 : (lpN c0 n0 t - (k + 1)).toNat < (lpN c0 n0 t - k).toNat := by omega
    have hk1 : 0 ≤ k + 1 ∧ k + 1 ≤ lpN c0 n0 t := by omega
    have hk2 : k + 1 ≤ 4611686018427387904 := by omega
    refine ⟨fun h1 => ⟨fun h2 => ?_, fun h2 => ?_⟩, fun h1 => ?_⟩
    · rintro u rfl - v rfl -
      exact ⟨fun h => hA h, fun _ => ⟨hk2, _, hm1, hk1, fun _ => one, fun _ => one, rfl⟩⟩
    · rintro u rfl - v rfl - z rfl -
      exact ⟨fun h => hA h, fun _ => ⟨hk2, _, hm1, hk1, fun _ => one, eb h2, rfl⟩⟩
    · rintro u rfl - v rfl -
      refine ⟨fun h2 => ⟨fun h => hA h, fun _ => ⟨hk2, _, hm1, hk1, et h1, fun _ => one, rfl⟩⟩, fun h2 => ?_⟩
      rintro z rfl -
      exact ⟨fun h => hA h, fun _ => ⟨hk2, _, hm1, hk1, et h1, eb h2, rfl⟩⟩
  · have h1 := hD (by omega)
    have h2 := hF (by omega)
    exact ⟨fun h => h1 h, fun _ => ⟨fun h => h2 h, fun _ => ⟨by omega, _, by omega, ⟨by omega, by omega⟩, rfl⟩⟩⟩

theorem plain (i v ro p) : statR 2 rc tree ⟨i, fN, v, ro, p⟩ = P (i 0) (i 1) (i 2) := by kernel_rfl
theorem ran : ranR us (fun f i => if f = 3 then (match i with | 10 => .tmpl (some mk3_10) | _ => .auto) else .auto) rc 2 tree = true := by kernel_rfl
theorem fineT : fineR 2 rc tree = true := by kernel_rfl
theorem ok : RcOk (cxOf 2) rc := okR us_ok ran fineT okb fun i v ro p hρ hcap hpre => by rw [plain]; have q := hρ.hi; exact holds _ _ _ (q 0 _ rfl).1 (q 0 _ rfl).2 (hcap _ (mg 0 rfl))

theorem walk (w : World) (a0 : RO) (k0 : a0.cks = [.int .u32]) (n0 : a0.a = none → a0.n = 0) (m0 : a0.n ≤ a0.cap) (t0 : RoAt w a0) (b0 : (a0.n : Int) ≤ 140737488355328) :
    Calls Try.prog 3 #[.slice a0.a a0.n a0.cap] w fun e w' => e = .returned (.bool true) ∧ Below w.heap.size w w' := by
  refine law_of (cx := cxOf 2) ok ⟨rfl, rfl, rfl⟩ (ρ := envR Try.prog [(a0.n : Int), a0.c, (a0.cap : Int)] [a0]) (envR_ok (cx := rc.cx (cxOf 2)) rfl rfl (bnd_cons ⟨Int.natCast_nonneg _, b0⟩ (bnd_nil _)) ⟨⟨k0, rfl, (Int.toNat_natCast _).symm, (Int.toNat_natCast _).symm, n0, fun g h => by cases h⟩, trivial⟩) (fun d hd => by
    simp only [show qXx rc.b rc.c rc.ls 0 0 0 = [⟨[.int .u32], .v 1, .v 0, .v 2, none⟩] from rfl, List.mem_cons, List.not_mem_nil, or_false] at hd
    rcases hd with rfl
    · exact Int.ofNat_le.2 m0) (roOk_of ⟨t0, trivial⟩) ?_
  rw [show rc.args = [.sl (.inp 0) 1 (.c 0) (.v 0) (some (.v 2))] from rfl]
  simp only [SV.denL, SV.den, E.ev, qXe]
  rfl
theorem lifted (os : Os) (started : os.Started) (H : Type) (enc : TypeId × Value → H) :
    ReturnsInHanded {} Try.checked os 3 .any (Rows.graphLoopsSpec.pre6 enc Try.prog Try.f3 Rows.graphLoopsRow.domain false) (Rows.graphLoopsSpec.post enc Try.prog Try.f3 false true false false) := by
  refine returnsInHanded_of_change_sized (C := Try.checked) own started (by kernel_rfl) Try.func3
    (ChangeSpec.witness6 (enc := enc) (C := Try.checked) false ⟨#[], #[.slice none 0 0], []⟩ 8 (by kernel_rfl) (by kernel_rfl) (by kernel_rfl) (by kernel_rfl)) ?_
  intro W base args ds gs before hval0 hW hcnd hw0 _
  have hval : ∀ (j : Nat) t v, Try.f3.params[j]? = some t → args[j]? = some v → Value.okWide Try.prog W .any base t v := hval0
  have hW' := hW
  obtain ⟨p, q, hA0, hV, rfl, hfz, hnd⟩ := hW
  have hA : DataW.TrodAll enc Try.prog W 0 (fun _ => true) true Try.f3.params.toList args.toList ds p := hA0
  have hw := hw0
  rw [Try.params3] at hA hval hw
  obtain ⟨v0, vs0, d0, ds0, p0, q0, hargs, rfl, rfl, h0, r0⟩ := trodAll_cons hA
  have h0k := h0
  obtain ⟨rfl, rfl, rfl⟩ := trodAll_nil r0
  obtain rfl : args = #[v0] := by cases args; simp_all
  obtain ⟨rfl, rfl⟩ := trodVars_none hV
  obtain ⟨a0, k0, rfl, n0, m0, t0, b0, _⟩ := Go.Eng.open_row (ks := [.int .u32]) Try.underlying22 (ElT.one Try.underlying32 (by kernel_rfl)) (by decide) (of_decide_eq_true (by kernel_rfl)) (by kernel_rfl) (hval 0 22 v0 rfl rfl) h0 (weights_of (gs := []) hw (j := 0) (t := 22) rfl rfl)
  clear hA0 hval0
  refine (walk W a0 k0 n0 m0 t0 b0).mono fun e W' ⟨he, hg⟩ => ?_
  subst he
  have hin0 : ∀ x ∈ p0, x ∈ p0 ++ [] ++ [] := fun x hx => by simp [hx]
  have hlt0 : ∀ x ∈ p0, x.block < W.heap.size := fun x hx => by simpa using hW'.lt x (by simp [hx])
  exact ⟨_, rfl, post_below (pa := _) (pv := []) hW' hg (fun _ _ _ => (trodAll_cons_mk (shut_bool Try.underlying4 _) trodAll_mk0)) (fun sp hsp => (trodAll_cons_mk (WideElems.Trod_stays laidOut (by kernel_rfl) (of_decide_eq_true (by kernel_rfl)) h0k (fun x hx => hg.same (hlt0 x hx)) (fun x hx => hsp x (hin0 x hx))) trodAll_mk0)) (fun _ _ => rfl) (by simp)
    (ok_one (by kernel_rfl) rfl (okWide_bool_mk Try.underlying4 _))⟩

theorem over : Rows.graphLoopsRow.holds Try.pinned (OpenSpec.ofChange Rows.graphLoopsSpec) :=
  OpenClaim.holds_of_wide 3 Try.f3 rfl rfl rfl rfl rfl rfl rfl ⟨rfl, rfl, rfl, rfl, rfl⟩ rfl rfl rfl rfl rfl (by kernel_rfl) Try.func3 (by kernel_rfl)
    (of_decide_eq_true (by kernel_rfl)) (by unfold Func.isWrapper; first | (rw [if_pos (by decide +kernel)]; kernel_rfl) | (rw [if_neg (by decide +kernel)]; exact ⟨rfl, rfl⟩))
    (fun os started H enc _ => lifted os started H enc)

/-- the statement -/
theorem proved : Rows.GraphLoopsSaid :=
  over
#print axioms proved
end Go.Proofs.Ytacchdmnhfkekab.graphLoops
