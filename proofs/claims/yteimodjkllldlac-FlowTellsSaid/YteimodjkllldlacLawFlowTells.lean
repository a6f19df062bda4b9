/-
  The law FlowTells answers true at every input: the law is run by the engine (a symbolic run, proved sound), the tree of its answers, as a plain statement, is shown to hold. No condition.
-/
import Derived.Test.YteimodjkllldlacKd
import Derived.Test.YteimodjkllldlacKe
import Derived.Test.YteimodjkllldlacKi
import Derived.Test.YteimodjkllldlacGab
import Derived.Test.YteimodjkllldlacGp5
import Derived.WalkKit
import Derived.ProofKit
import Derived.OpenShut
import Derived.LaidMore
import Derived.Stop.Joined
import Derived.SevenTiedAt
import Derived.SizedLaws
namespace Go.Proofs.Yteimodjkllldlac.flowTells
open Go.ChangeShapes Go.WideShapes Go.ChangeAt Go.Eng Go.RowKit
set_option linter.unusedVariables false
set_option linter.unusedSimpArgs false
set_option maxRecDepth 100000
def rc : Rc := ⟨3, [some 5], [.row [.int .u32] 140737488355328, .row [.int .i32] 140737488355328, .row [.bool] 140737488355328, .row [.int .i64] 140737488355328, .row [.int .i64] 140737488355328], [], .one, [.bool (.c 1)]⟩
theorem okb : rc.ok = true := by kernel_rfl
noncomputable def us : SMs := fun Γ ins n => smH (cxG n Γ ins) [] (smR (cxG n Γ ins) [CAwake24.rc, CFCheck.rc, CRFCheck.rc, CFSecrets.rc, CRFSecrets.rc, CRWords.rc])
theorem us_ok : SMsOk us := fun Γ ins n => qJx (tabsG n Γ ins) (qZc _) (qJj (tabsG n Γ ins) (qQo CAwake24.okb (rc_n CAwake24.ok) (qQo CFCheck.okb (rc_n CFCheck.ok) (qQo CRFCheck.okb (rc_n CRFCheck.ok) (qQo CFSecrets.okb (rc_n CFSecrets.ok) (qQo CRFSecrets.okb (rc_n CRFSecrets.ok) (qQo CRWords.okb (rc_n CRWords.ok) (qZe _))))))))
def Q0 : E := (tC (.v 9) (.c 0))
def Q1 : E := (tC (.v 8) Q0)
def Q2 : E := (tC (.v 4) Q1)
def Q3 : E := (tC (.v 3) Q2)
def Q4 : E := (tC (.v 2) Q3)
def Q5 : E := (.f 84 (.v 0) (.v 1) Q4)
def Q6 : E := (tn Q5 (.c 0))
def Q7 : E := (tC (.v 1) (tC (.v 7) (.c 0)))
def Q8 : E := (.f 109 (.v 5) (.v 0) Q7)
def tree : TT (List E) :=
 (.br (tl (.v 0) (.c 200)) (.br (tl (.v 1) (.c 2100)) (.br (tl (.v 2) (.c 2100)) (.br (tl (.v 3) (.c 300)) (.br (.nt (tl (.v 4) (.c 300))) (.leaf [(.c 1)]) (.br (tl (.v 0) (.c 1000000)) (.br (tl (.v 1) (.c 1000000)) (.br (tl (.v 2) (.c 1000000)) (.br (tl (.v 3) (.c 1000000)) (.br (tl (.v 4) (.c 1000000)) (.br (tl (.v 0) (.v 10)) (.br (tl (.v 1) (.v 11)) (.br (tl (.v 2) (.v 12)) (.br (tl (.v 3) (.v 13)) (.br (tl (.v 4) (.v 14)) (.new 1000 (.ite Q6 Q5 (.f 104 (.v 5) (.v 0) (tC (.v 1) (tC (.v 7) (tC (.v 8) (tC (.v 3) (.c 0))))))) (.new 1001 (.ite Q6 (.c 0) (.v 0)) (.br (tl (.cl 1001 0 140737488355328) (.c 1000000)) (.new 1002 (.f 72 Q8 Q8 (.cl 1001 0 140737488355328)) (.br (.cl 1002 0 1) (.leaf [(.c 1)]) (.leaf [(.c 0)]))) (.bad 200)))) (.bad 200)) (.bad 200)) (.bad 200)) (.bad 200)) (.bad
 200)) (.bad 200)) (.bad 200)) (.bad 200)) (.bad 200)) (.bad 200))) (.leaf [(.c 1)])) (.leaf [(.c 1)])) (.leaf [(.c 1)])) (.leaf [(.c 1)]))


def P (a b c d e f g h i j k l n o p : Int) : Prop :=
 (Pb (PL a 200) (Pb (PL b 2100) (Pb (PL c 2100) (Pb (PL d 300) (Pb (Pe (PL e 300) 0) Pt (Pm (PL a 1000000) (Pm (PL b 1000000) (Pm (PL c 1000000) (Pm (PL d 1000000) (Pm (PL e 1000000) (Pm (PL a k) (Pm (PL b l) (Pm (PL c n) (Pm (PL d o) (Pm (PL e p) (Pn (iteZ (Pd (chkZ a b (kZ c (kZ d (kZ e (kZ i (kZ j 0)))))) 0) (chkZ a b (kZ c (kZ d (kZ e (kZ i (kZ j 0)))))) (fwhZ f a (kZ b (kZ h (kZ i (kZ d 0)))))) 0 12 fun y0 => Pn (iteZ (Pd (chkZ a b (kZ c (kZ d (kZ e (kZ i (kZ j 0)))))) 0) 0 a) 0 140737488355328 fun y1 => (Pm (PL y1 1000000) (Pn (sameW (sctZ f a (kZ b (kZ h 0))) (sctZ f a (kZ b (kZ h 0))) y1) 0 1 fun y2 => (Pb y2 Pt Pf))))))))))))))) Pt) Pt) Pt) Pt)

set_option maxHeartbeats 4000000 in
theorem holds (n0_0 n0_1 n0_2 n0_3 n0_4 c0_0 c0_1 c0_2 c0_3 c0_4 r0_0 r0_1 r0_2 r0_3 r0_4 : Int) (l_n0_0 : 0 ≤ n0_0) (u_n0_0 : n0_0 ≤ 140737488355328) (l_n0_1 : 0 ≤ n0_1) (u_n0_1 : n0_1 ≤ 140737488355328) (l_n0_2 : 0 ≤ n0_2) (u_n0_2 : n0_2 ≤ 140737488355328) (l_n0_3 : 0 ≤ n0_3) (u_n0_3 : n0_3 ≤ 140737488355328) (l_n0_4 : 0 ≤ n0_4) (u_n0_4 : n0_4 ≤ 140737488355328) (h_n0_0 : n0_0 ≤ r0_0) (h_n0_1 : n0_1 ≤ r0_1) (h_n0_2 : n0_2 ≤ r0_2) (h_n0_3 : n0_3 ≤ r0_3) (h_n0_4 : n0_4 ≤ r0_4) : P n0_0 n0_1 n0_2 n0_3 n0_4 c0_0 c0_1 c0_2 c0_3 c0_4 r0_0 r0_1 r0_2 r0_3 r0_4 := by
  delta P Pb Pm Pn Pf Pt PL Pe Pd kZ
  simp only [nrm, nro, Int.reduceEq, Int.reduceNeg, reduceIte]
  simp only [sameW_refl, implies_true, and_true, true_and]
  intro g1 g2 g3 g4 g5
  refine ⟨by omega, by omega, by omega, by omega, by omega, h_n0_0, h_n0_1, h_n0_2, h_n0_3, h_n0_4, ?_⟩
  rintro x - - y hy -
  have hy1 : y ≤ 1000000 := by rw [hy]; split <;> omega
  refine ⟨hy1, ?_⟩
  rintro z rfl -
  decide

theorem plain (i v ro p) : statR 2 rc tree ⟨i, fN, v, ro, p⟩ = P (i 0) (i 1) (i 2) (i 3) (i 4) (i 5) (i 6) (i 7) (i 8) (i 9) (i 10) (i 11) (i 12) (i 13) (i 14) := by kernel_rfl
theorem ran : ranR us (fun _ _ => .auto) rc 2 tree = true := by kernel_rfl
theorem fineT : fineR 2 rc tree = true := by kernel_rfl
theorem ok : RcOk (cxOf 2) rc := okR us_ok ran fineT okb fun i v ro p hρ hcap hpre => by rw [plain]; have q := hρ.hi; exact holds _ _ _ _ _ _ _ _ _ _ _ _ _ _ _ (q 0 _ rfl).1 (q 0 _ rfl).2 (q 1 _ rfl).1 (q 1 _ rfl).2 (q 2 _ rfl).1 (q 2 _ rfl).2 (q 3 _ rfl).1 (q 3 _ rfl).2 (q 4 _ rfl).1 (q 4 _ rfl).2 (hcap _ (mg 0 rfl)) (hcap _ (mg 1 rfl)) (hcap _ (mg 2 rfl)) (hcap _ (mg 3 rfl)) (hcap _ (mg 4 rfl))

theorem walk (w : World) (a0_0 : RO) (k0_0 : a0_0.cks = [.int .u32]) (n0_0 : a0_0.a = none → a0_0.n = 0) (m0_0 : a0_0.n ≤ a0_0.cap) (t0_0 : RoAt w a0_0) (b0_0 : (a0_0.n : Int) ≤ 140737488355328) (a0_1 : RO) (k0_1 : a0_1.cks = [.int .i32]) (n0_1 : a0_1.a = none → a0_1.n = 0) (m0_1 : a0_1.n ≤ a0_1.cap) (t0_1 : RoAt w a0_1) (b0_1 : (a0_1.n : Int) ≤ 140737488355328) (a0_2 : RO) (k0_2 : a0_2.cks = [.bool]) (n0_2 : a0_2.a = none → a0_2.n = 0) (m0_2 : a0_2.n ≤ a0_2.cap) (t0_2 : RoAt w a0_2) (b0_2 : (a0_2.n : Int) ≤ 140737488355328) (a0_3 : RO) (k0_3 : a0_3.cks = [.int .i64]) (n0_3 : a0_3.a = none → a0_3.n = 0) (m0_3 : a0_3.n ≤ a0_3.cap) (t0_3 : RoAt w a0_3) (b0_3 : (a0_3.n : Int) ≤ 140737488355328) (a0_4 : RO) (k0_4 : a0_4.cks = [.int .i64]) (n0_4 : a0_4.a = none → a0_4.n = 0) (m0_4 : a0_4.n ≤ a0_4.cap) (t0_4 : RoAt w a0_4) (b0_4 : (a0_4.n : Int) ≤ 140737488355328) :
    Calls Try.prog 3 #[.agg #[.slice a0_0.a a0_0.n a0_0.cap, .slice a0_1.a a0_1.n a0_1.cap, .slice a0_2.a a0_2.n a0_2.cap, .slice a0_3.a a0_3.n a0_3.cap, .slice a0_4.a a0_4.n a0_4.cap]] w fun e w' => e = .returned (.bool true) ∧ Below w.heap.size w w' := by
  refine law_of (cx := cxOf 2) ok ⟨rfl, rfl, rfl⟩ (ρ := envR Try.prog [(a0_0.n : Int), (a0_1.n : Int), (a0_2.n : Int), (a0_3.n : Int), (a0_4.n : Int), a0_0.c, a0_1.c, a0_2.c, a0_3.c, a0_4.c, (a0_0.cap : Int), (a0_1.cap : Int), (a0_2.cap : Int), (a0_3.cap : Int), (a0_4.cap : Int)] [a0_0, a0_1, a0_2, a0_3, a0_4]) (envR_ok (cx := rc.cx (cxOf 2)) rfl rfl (bnd_cons ⟨Int.natCast_nonneg _, b0_0⟩ (bnd_cons ⟨Int.natCast_nonneg _, b0_1⟩ (bnd_cons ⟨Int.natCast_nonneg _, b0_2⟩ (bnd_cons ⟨Int.natCast_nonneg _, b0_3⟩ (bnd_cons ⟨Int.natCast_nonneg _, b0_4⟩ (bnd_nil _)))))) ⟨⟨k0_0, rfl, (Int.toNat_natCast _).symm, (Int.toNat_natCast _).symm, n0_0, fun g h => by cases h⟩, ⟨⟨k0_1, rfl, (Int.toNat_natCast _).symm, (Int.toNat_natCast _).symm, n0_1, fun g h => by cases h⟩, ⟨⟨k0_2, rfl, (Int.toNat_natCast _).symm, (Int.toNat_natCast _).symm, n0_2, fun g h => by cases h⟩, ⟨⟨k0_3, rfl, (Int.toNat_natCast _).symm, (Int.toNat_natCast _).symm, n0_3, fun g h => by cases h⟩, ⟨⟨k0_4, rfl, (Int.toNat_natCast _).symm, (Int.toNat_natCast _).symm, n0_4, fun g h => by cases h⟩, trivial⟩⟩⟩⟩⟩) (fun d hd => by
    simp only [show qXg rc.b rc.c rc.ls 0 0 0 = [⟨[.int .u32], .v 5, .v 0, .v 10, none⟩, ⟨[.int .i32], .v 6, .v 1, .v 11, none⟩, ⟨[.bool], .v 7, .v 2, .v 12, none⟩, ⟨[.int .i64], .v 8, .v 3, .v 13, none⟩, ⟨[.int .i64], .v 9, .v 4, .v 14, none⟩] from rfl, List.mem_cons, List.not_mem_nil, or_false] at hd
    rcases hd with rfl | rfl | rfl | rfl | rfl
    · exact Int.ofNat_le.2 m0_0
    · exact Int.ofNat_le.2 m0_1
    · exact Int.ofNat_le.2 m0_2
    · exact Int.ofNat_le.2 m0_3
    · exact Int.ofNat_le.2 m0_4) (roOk_of ⟨t0_0, ⟨t0_1, ⟨t0_2, ⟨t0_3, ⟨t0_4, trivial⟩⟩⟩⟩⟩) ?_
  rw [show rc.args = [.agg [.sl (.inp 0) 1 (.c 0) (.v 0) (some (.v 10)), .sl (.inp 1) 1 (.c 0) (.v 1) (some (.v 11)), .sl (.inp 2) 1 (.c 0) (.v 2) (some (.v 12)), .sl (.inp 3) 1 (.c 0) (.v 3) (some (.v 13)), .sl (.inp 4) 1 (.c 0) (.v 4) (some (.v 14))]] from rfl]
  simp only [SV.denL, SV.den, E.ev, map_addr_zero]
  rfl
theorem lifted (os : Os) (started : os.Started) (H : Type) (enc : TypeId × Value → H) :
    ReturnsInHanded {} Try.checked os 3 .any (Rows.flowTellsSpec.pre6 enc Try.prog Try.f3 Rows.flowTellsRow.domain false) (Rows.flowTellsSpec.post enc Try.prog Try.f3 false true false false) := by
  refine returnsInHanded_of_change_sized (C := Try.checked) own started (by kernel_rfl) Try.func3
    (ChangeSpec.witness6 (enc := enc) (C := Try.checked) false ⟨#[], #[.agg #[.slice none 0 0, .slice none 0 0, .slice none 0 0, .slice none 0 0, .slice none 0 0]], []⟩ 8 (by kernel_rfl) (by kernel_rfl) (by kernel_rfl) (by kernel_rfl)) ?_
  intro W base args ds gs before hval0 hW hcnd hw0 _
  have hval : ∀ (j : Nat) t v, Try.f3.params[j]? = some t → args[j]? = some v → Value.okWide Try.prog W .any base t v := hval0
  have hW' := hW
  obtain ⟨p, q, hA0, hV, rfl, hfz, hnd⟩ := hW
  have hA : DataW.TrodAll enc Try.prog W 0 (fun _ => true) true Try.f3.params.toList args.toList ds p := hA0
  have hw := hw0
  rw [Try.params3] at hA hval hw
  obtain ⟨v0, vs0, d0, ds0, p0, q0, hargs, rfl, rfl, h0, r0⟩ := trodAll_cons hA
  have h0k := h0
  obtain ⟨rfl, rfl, rfl⟩ := trodAll_nil r0
  obtain rfl : args = #[v0] := by cases args; simp_all
  obtain ⟨rfl, rfl⟩ := trodVars_none hV
  obtain ⟨ros0, hl0, rfl, hp0⟩ := Go.Eng.open_rows (kss := [[.int .u32], [.int .i32], [.bool], [.int .i64], [.int .i64]]) Try.underlying27 (by kernel_rfl) (by kernel_rfl) ⟨⟨⟨_, Try.underlying22, (ElT.one Try.underlying36 (by kernel_rfl)), of_decide_eq_true (by kernel_rfl), by kernel_rfl⟩, by decide⟩, ⟨⟨_, Try.underlying23, (ElT.one Try.underlying21 (by kernel_rfl)), of_decide_eq_true (by kernel_rfl), by kernel_rfl⟩, by decide⟩, ⟨⟨_, Try.underlying24, (ElT.one Try.underlying4 (by kernel_rfl)), of_decide_eq_true (by kernel_rfl), by kernel_rfl⟩, by decide⟩, ⟨⟨_, Try.underlying25, (ElT.one Try.underlying3 (by kernel_rfl)), of_decide_eq_true (by kernel_rfl), by kernel_rfl⟩, by decide⟩, ⟨⟨_, Try.underlying25, (ElT.one Try.underlying3 (by kernel_rfl)), of_decide_eq_true (by kernel_rfl), by kernel_rfl⟩, by decide⟩, trivial⟩ (hval 0 27 v0 rfl rfl) h0 (weights_of (gs := []) hw (j := 0) (t := 27) rfl rfl)
  obtain ⟨a0_0, ros0, rfl⟩ := List.exists_cons_of_length_eq_add_one hl0
  have hl0 := Nat.succ.inj hl0
  obtain ⟨a0_1, ros0, rfl⟩ := List.exists_cons_of_length_eq_add_one hl0
  have hl0 := Nat.succ.inj hl0
  obtain ⟨a0_2, ros0, rfl⟩ := List.exists_cons_of_length_eq_add_one hl0
  have hl0 := Nat.succ.inj hl0
  obtain ⟨a0_3, ros0, rfl⟩ := List.exists_cons_of_length_eq_add_one hl0
  have hl0 := Nat.succ.inj hl0
  obtain ⟨a0_4, ros0, rfl⟩ := List.exists_cons_of_length_eq_add_one hl0
  have hl0 := Nat.succ.inj hl0
  obtain rfl := List.eq_nil_of_length_eq_zero hl0
  obtain ⟨k0_0, n0_0, m0_0, t0_0, b0_0, _⟩ := hp0 0 _ _ rfl rfl
  obtain ⟨k0_1, n0_1, m0_1, t0_1, b0_1, _⟩ := hp0 1 _ _ rfl rfl
  obtain ⟨k0_2, n0_2, m0_2, t0_2, b0_2, _⟩ := hp0 2 _ _ rfl rfl
  obtain ⟨k0_3, n0_3, m0_3, t0_3, b0_3, _⟩ := hp0 3 _ _ rfl rfl
  obtain ⟨k0_4, n0_4, m0_4, t0_4, b0_4, _⟩ := hp0 4 _ _ rfl rfl
  clear hA0 hval0
  refine (walk W a0_0 k0_0 n0_0 m0_0 t0_0 b0_0 a0_1 k0_1 n0_1 m0_1 t0_1 b0_1 a0_2 k0_2 n0_2 m0_2 t0_2 b0_2 a0_3 k0_3 n0_3 m0_3 t0_3 b0_3 a0_4 k0_4 n0_4 m0_4 t0_4 b0_4).mono fun e W' ⟨he, hg⟩ => ?_
  subst he
  have hin0 : ∀ x ∈ p0, x ∈ p0 ++ [] ++ [] := fun x hx => by simp [hx]
  have hlt0 : ∀ x ∈ p0, x.block < W.heap.size := fun x hx => by simpa using hW'.lt x (by simp [hx])
  exact ⟨_, rfl, post_below (pa := _) (pv := []) hW' hg (fun _ _ _ => (trodAll_cons_mk (shut_bool Try.underlying4 _) trodAll_mk0)) (fun sp hsp => (trodAll_cons_mk (WideElems.Trod_stays laidOut (by kernel_rfl) (of_decide_eq_true (by kernel_rfl)) h0k (fun x hx => hg.same (hlt0 x hx)) (fun x hx => hsp x (hin0 x hx))) trodAll_mk0)) (fun _ _ => rfl) (by simp)
    (ok_one (by kernel_rfl) rfl (okWide_bool_mk Try.underlying4 _))⟩

theorem over : Rows.flowTellsRow.holds Try.pinned (OpenSpec.ofChange Rows.flowTellsSpec) :=
  OpenClaim.holds_of_wide 3 Try.f3 rfl rfl rfl rfl rfl rfl rfl ⟨rfl, rfl, rfl, rfl, rfl⟩ rfl rfl rfl rfl rfl (by kernel_rfl) Try.func3 (by kernel_rfl)
    (of_decide_eq_true (by kernel_rfl)) (by unfold Func.isWrapper; first | (rw [if_pos (by decide +kernel)]; kernel_rfl) | (rw [if_neg (by decide +kernel)]; exact ⟨rfl, rfl⟩))
    (fun os started H enc _ => lifted os started H enc)

/-- the statement -/
theorem proved : Rows.FlowTellsSaid :=
  over
#print axioms proved
end Go.Proofs.Yteimodjkllldlac.flowTells
