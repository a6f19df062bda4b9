/-
  The law BoundHolds answers true at every input: the law is run by the engine (a symbolic run, proved sound), the tree of its answers, as a plain statement, is shown to hold. No condition.
-/
import Derived.Test.YtppkkgicidagmabGreatDoorKa
import Derived.Test.YtppkkgicidagmabGreatDoorKb
import Derived.Test.YtppkkgicidagmabGreatDoorKc
import Derived.Test.YtppkkgicidagmabGreatDoorKf
import Derived.Test.YtppkkgicidagmabGreatDoorKg
import Derived.Test.YtppkkgicidagmabGreatDoorGab
import Derived.Test.YtppkkgicidagmabGreatDoorGib
import Derived.Test.YtppkkgicidagmabGreatDoorGp5
import Derived.WalkKit
import Derived.ProofKit
import Derived.OpenShut
import Derived.LaidMore
import Derived.Stop.Joined
import Derived.SevenTiedAt
import Derived.SizedLaws
import Derived.Lay
import Derived.Test.YtppkkgicidagmabGreatDoorCards
import Derived.Test.YtppkkgicidagmabGreatDoorTie
namespace Go.Proofs.YtppkkgicidagmabGreatDoor.boundHolds
open Go.ChangeShapes Go.WideShapes Go.ChangeAt Go.Eng Go.RowKit
set_option linter.unusedVariables false
set_option linter.unusedSimpArgs false
set_option maxRecDepth 100000
def rc : Rc := ⟨3, [none, none], [.row [.int .u32] 140737488355328, .row [.int .i32] 140737488355328], [], .one, [.bool (.c 1)]⟩
theorem okb : rc.ok = true := by kernel_rfl
noncomputable def us : SMs := fun Γ ins n => smH (cxG n Γ ins) [CCNew.rk.rh, CCRun0.rk.rh] (smAnd 5 (libBMost Γ ins n) (smAnd 6 (libBLeast Γ ins n) (smR (cxG n Γ ins) [COCost.rc, CCDec.rc, CGNext.rc, CAwake44.rc])))
theorem us_ok : SMsOk us := fun Γ ins n => smH_ok (tabsG n Γ ins) (rhs_cons CCNew.okh (rh_n CCNew.ok) (rhs_cons CCRun0.okh (rh_n CCRun0.ok) (qKh _))) (smAnd_ok (libBMost_ok CGNext.nextC COCost.costC CCDec.decC Γ ins n) (smAnd_ok (libBLeast_ok CGNext.nextC COCost.costC CCDec.decC Γ ins n) (smR_ok (tabsG n Γ ins) (qJv COCost.okb (rc_n COCost.ok) (qJv CCDec.okb (rc_n CCDec.ok) (qJv CGNext.okb (rc_n CGNext.ok) (qJv CAwake44.okb (rc_n CAwake44.ok) (qKi _))))))))
def Q0 : E := (.f 181 (.v 2) (.v 0) (.c 0))
def Q1 : E := (.f 180 (.v 2) (.v 0) (.c 0))
def Q2 : E := (.f 88 (.v 2) (.v 0) (.c 0))
def Q3 : E := (.f 74 (.v 3) (.c 0) (.c 0))
def Q4 : E := (tC Q3 (.c 0))
def Q5 : E := (tC (.c 1000) Q4)
def Q6 : E := (tC (.v 1) Q5)
def Q7 : E := (.f 73 Q2 (.v 0) Q6)
def Q8 : E := (tR Q7 (.c 4))
def Q9 : E := (t6 Q8)
def Q10 : E := (tR Q7 (.c 3))
def Q11 : E := (t6 Q10)
def Q12 : E := (.f 182 (.v 2) (.v 0) (.c 0))
def tree : TT (List E) :=
 (.br (tk (.c 60) (.v 0)) (.leaf [(.c 1)]) (.br (tk (.c 2048) (.v 1)) (.leaf [(.c 1)]) (.br (tl (.v 0) (.v 4)) (.br (tl (.v 0) (.c 64)) (.br (tn Q0 (.c 0)) (.br (te Q1 (.c 0)) (.br (te Q0 (.c 12)) (.leaf [(.c 1)]) (.leaf [(.c 0)])) (.leaf [(.c 0)])) (.br (tl (.v 0) (.c 16384)) (.br (tl (.v 1) (.c 2048)) (.br (.f 68 Q2 (.v 0) (.c 0)) (.br (tk Q1 Q9) (.leaf [(.c 0)]) (.br (te Q11 (.c 0)) (.leaf [(.c 0)]) (.br (tn Q11 (.c 1)) (.leaf [(.c 1)]) (.br (te (.f 183 (.v 2) (.v 0) (.c 0)) (.c 0)) (.br (tl Q12 Q9) (.br (tl Q12 Q1) (.leaf [(.c 1)]) (.leaf [(.c 0)])) (.leaf [(.c 0)])) (.leaf [(.c 0)]))))) (.bad 200)) (.bad 200)) (.bad 200))) (.bad 200)) (.bad 200))))


def P (a b c d e f : Int) : Prop :=
 (Pb (Pl 60 a) Pt (Pb (Pl 2048 b) Pt (Pm (PL a e) (Pm (PL a 64) (Pb (Pd (bmE c a) 0) (Pb (Pe (bmN c a) 0) (Pb (Pe (bmE c a) 12) Pt Pf) Pf) (Pm (PL a 16384) (Pm (PL b 2048) (Pm (okC (decW c a) a) (Pb (Pl (bmN c a) (W6 (rdZ (runP (decW c a) a (kZ b (kZ 1000 (kZ (nuP d) 0)))) 4))) Pf (Pb (Pe (W6 (rdZ (runP (decW c a) a (kZ b (kZ 1000 (kZ (nuP d) 0)))) 3)) 0) Pf (Pb (Pd (W6 (rdZ (runP (decW c a) a (kZ b (kZ 1000 (kZ (nuP d) 0)))) 3)) 1) Pt (Pb (Pe (blE c a) 0) (Pb (PL (blN c a) (W6 (rdZ (runP (decW c a) a (kZ b (kZ 1000 (kZ (nuP d) 0)))) 4))) (Pb (PL (blN c a) (bmN c a)) Pt Pf) Pf) Pf))))))))))))

theorem holds (n0 n1 c0 c1 r0 r1 : Int) (l_n0 : 0 ≤ n0) (u_n0 : n0 ≤ 140737488355328) (l_n1 : 0 ≤ n1) (u_n1 : n1 ≤ 140737488355328) (h_n0 : n0 ≤ r0) (h_n1 : n1 ≤ r1) : P n0 n1 c0 c1 r0 r1 := by
  delta P Pb Pm Pf Pt PL Pl Pe Pd W6 kZ
  simp only [nrm, nro, Int.reduceEq, Int.reduceNeg, reduceIte]
  refine ⟨fun _ => trivial, fun hn => ⟨fun _ => trivial, fun hn1 => ?_⟩⟩
  obtain ⟨N, rfl⟩ := Int.eq_ofNat_of_zero_le l_n0
  have hok : ¬okC (decW c0 N) N = 0 := okC_dec c0 N
  have hE := @bn_end c0 N n1 c1 (by omega)
  refine ⟨h_n0, by omega, fun h => ?_, fun h => ⟨by omega, by omega, hok, ?_⟩⟩
  · have hf : ¬frZ c0 N = 1 := fun g => h (by unfold bmE; rw [if_pos g])
    have h1 : bmN c0 N = 0 := by unfold bmN; rw [if_neg hf]
    have h2 : bmE c0 N = 12 := by unfold bmE; rw [if_neg hf]
    simp [h1, h2, qQj]
  · have hf : frZ c0 N = 1 := Classical.byContradiction fun g => by
      unfold bmE at h
      rw [if_neg g] at h
      omega
    obtain ⟨g1, g2, g3⟩ := hE hf
    have hN : bmN c0 N = mstZ c0 N 0 := by unfold bmN; rw [if_pos hf]
    generalize IntKind.wrap .i64 (rdZ (runP (decW c0 N) N _) 4) = C at *
    generalize IntKind.wrap .i64 (rdZ (runP (decW c0 N) N _) 3) = st at *
    refine ⟨fun g => by omega, fun _ => ⟨fun g => absurd g g2, fun _ => ⟨fun _ => trivial, fun gs => ?_⟩⟩⟩
    obtain ⟨l1, l2⟩ := g3 (by omega)
    have hl : blN c0 N = lstZ c0 N 0 ∧ blE c0 N = 0 := by unfold blN blE; rw [if_pos hf, if_pos hf, if_pos l1, if_pos l1]; exact ⟨rfl, rfl⟩
    rw [hl.1, hl.2]
    refine ⟨rfl, ?_⟩
    omega

theorem plain (i v ro p) : statR 2 rc tree ⟨i, fN, v, ro, p⟩ = P (i 0) (i 1) (i 2) (i 3) (i 4) (i 5) := by kernel_rfl
theorem ran : ranR us (fun _ _ => .auto) rc 2 tree = true := by kernel_rfl
theorem fineT : fineR 2 rc tree = true := by kernel_rfl
theorem ok : RcOk (cxOf 2) rc := okR us_ok ran fineT okb fun i v ro p hρ hcap hpre => by rw [plain]; have q := hρ.hi; exact holds _ _ _ _ _ _ (q 0 _ rfl).1 (q 0 _ rfl).2 (q 1 _ rfl).1 (q 1 _ rfl).2 (hcap _ (mg 0 rfl)) (hcap _ (mg 1 rfl))
theorem laidMet_tail {P : Program} {x : String × DataW Unit} {rest : List (String × DataW Unit)} {W : World} (h : laidMet P (x :: rest) W) : laidMet P rest W := by
  obtain ⟨ps, hl, hn, hf⟩ := h
  obtain ⟨n, d⟩ := x
  obtain ⟨g, t, cs, fuel, p, q, _, _, _, _, hq, rfl⟩ := hl
  exact ⟨q, hq, (List.nodup_append.1 hn).2.1, fun b off hm => hf b off (List.mem_append_right _ hm)⟩
theorem listE_LZ (P : Program) (l : List Int) (ro : List RO) : ∀ zs : List Int, (qQr (zs.map E.c)).ev (envR P l ro) = LZ zs
  | [] => rfl
  | z :: zs => by
    have h : (qQr ((z :: zs).map E.c)).ev (envR P l ro) = qQq z ((qQr (zs.map E.c)).ev (envR P l ro)) := rfl
    rw [h, listE_LZ P l ro zs]
    unfold qQq
    rw [ZL_LZ]
def tab0 : List Int := [1, 1, 1, 1, 1, 1, 1, 1, 1, 1, 1, 1, 1, 1, 1, 1, 1, 3, 3, 3, 3, 2, 2, 1, 1, 1, 1, 1, 1, 1, 1, 1, 1, 2, 2, 1, 1, 1, 3, 3, 3, 1, 1]
theorem tabG0 : Tryz.prog.globalNamed "astrolabe/ops.costs" = some 0 := by kernel_rfl
theorem tabW0 : ∀ z ∈ tab0, IntKind.wrap .i64 z = z := fun z hz => by
  have h := List.all_eq_true.1 (show tab0.all (fun z => decide (IntKind.wrap .i64 z = z)) = true by kernel_rfl) z hz
  simpa using h
theorem tabIs0 {W : World} (h : laidMetH Tryz.prog Rows.boundHoldsRow.laid W) : Lib.TabIs Tryz.prog W "astrolabe/ops.costs" .i64 tab0 := by
  rw [MakeChecks.laidMetH_plain _ _ _ (by kernel_rfl)] at h
  exact Lib.tabIs_of_head tabG0 (t := 93) (e := 3) (n := 43) (by kernel_rfl) (by kernel_rfl) (by kernel_rfl) (by kernel_rfl) (by kernel_rfl) h

theorem walk (w : World) (a0 : RO) (k0 : a0.cks = [.int .u32]) (n0 : a0.a = none → a0.n = 0) (m0 : a0.n ≤ a0.cap) (t0 : RoAt w a0) (b0 : (a0.n : Int) ≤ 140737488355328) (a1 : RO) (k1 : a1.cks = [.int .i32]) (n1 : a1.a = none → a1.n = 0) (m1 : a1.n ≤ a1.cap) (t1 : RoAt w a1) (b1 : (a1.n : Int) ≤ 140737488355328) (tb0 : Lib.TabIs Tryz.prog w "astrolabe/ops.costs" .i64 tab0) :
    Calls Tryz.prog 3 #[.slice a0.a a0.n a0.cap, .slice a1.a a1.n a1.cap] w fun e w' => e = .returned (.bool true) ∧ Below w.heap.size w w' := by
  refine law_of (cx := cxOf 2) ok ⟨rfl, rfl, rfl⟩ (ρ := envR Tryz.prog [(a0.n : Int), (a1.n : Int), a0.c, a1.c, (a0.cap : Int), (a1.cap : Int)] [a0, a1, tabRo 0 .i64 tab0]) (envR_ok (cx := rc.cx (cxOf 2)) rfl rfl (bnd_cons ⟨Int.natCast_nonneg _, b0⟩ (bnd_cons ⟨Int.natCast_nonneg _, b1⟩ (bnd_nil _))) ⟨⟨k0, rfl, (Int.toNat_natCast _).symm, (Int.toNat_natCast _).symm, n0, fun g h => by cases h⟩, ⟨⟨k1, rfl, (Int.toNat_natCast _).symm, (Int.toNat_natCast _).symm, n1, fun g h => by cases h⟩, ⟨⟨rfl, (listE_LZ _ _ _ tab0).symm, rfl, rfl, (fun h => by cases h), fun g h => by cases h; exact ⟨rfl, rfl⟩⟩, trivial⟩⟩⟩) (fun d hd => by
    simp only [show qXa rc.b rc.c rc.ls 0 0 0 = [⟨[.int .u32], .v 2, .v 0, .v 4, none⟩, ⟨[.int .i32], .v 3, .v 1, .v 5, none⟩] from rfl, List.mem_cons, List.not_mem_nil, or_false] at hd
    rcases hd with rfl | rfl
    · exact Int.ofNat_le.2 m0
    · exact Int.ofNat_le.2 m1) (roOk_of ⟨t0, ⟨t1, ⟨tabRo_at tb0 tabG0 tabW0, trivial⟩⟩⟩) ?_
  rw [show rc.args = [.sl (.inp 0) 1 (.c 0) (.v 0) (some (.v 4)), .sl (.inp 1) 1 (.c 0) (.v 1) (some (.v 5))] from rfl]
  simp only [SV.denL, SV.den, E.ev, qXs]
  rfl
theorem lifted (os : Os) (started : os.Started) (H : Type) (enc : TypeId × Value → H) :
    ReturnsInHanded {} Tryz.checked os 3 .any (fun w args => (Rows.boundHoldsSpec.pre enc Tryz.prog Tryz.f3 Rows.boundHoldsRow.domain false w args ∧ laidMetH Tryz.prog Rows.boundHoldsRow.laid w) ∧ sizedMet enc Tryz.prog Tryz.f3 (OpenSpec.ofChange Rows.boundHoldsSpec) false w args)
      (Rows.boundHoldsSpec.post enc Tryz.prog Tryz.f3 false true false false) := by
  refine returnsInHanded_of_change_and (C := Tryz.checked) (X := fun w _ => laidMetH Tryz.prog Rows.boundHoldsRow.laid w) (fun _ _ _ hh h => h.of_heap hh) own started (by kernel_rfl) Tryz.func3
    (ChangeSpec.witness_shaped (enc := enc) (C := Tryz.checked) (os := os) (X := fun w _ => laidMetH Tryz.prog Rows.boundHoldsRow.laid w) false (World.laidAll Tryz.prog os Rows.boundHoldsRow.laid) #[.slice none 0 0, .slice none 0 0] 8 (World.laidAll_os _ _ _)
      (World.shaped_of_ZipB (by kernel_rfl) (by kernel_rfl)) (by kernel_rfl) (by kernel_rfl) (by kernel_rfl)
      (by rw [MakeChecks.laidMetH_plain _ _ _ (by kernel_rfl)]; exact laidMet_laidAll _ (by kernel_rfl) (by kernel_rfl))) ?_
  intro W base args ds gs before hval0 hW hcnd hw0 hL _
  have hval : ∀ (j : Nat) t v, Tryz.f3.params[j]? = some t → args[j]? = some v → Value.okWide Tryz.prog W .any base t v := hval0
  have hW' := hW
  obtain ⟨p, q, hA0, hV, rfl, hfz, hnd⟩ := hW
  have hA : DataW.TrodAll enc Tryz.prog W 0 (fun _ => true) true Tryz.f3.params.toList args.toList ds p := hA0
  have hw := hw0
  rw [Tryz.params3] at hA hval hw
  obtain ⟨v0, vs0, d0, ds0, p0, q0, hargs, rfl, rfl, h0, r0⟩ := trodAll_cons hA
  have h0k := h0
  obtain ⟨v1, vs1, d1, ds1, p1, q1, rfl, rfl, rfl, h1, r1⟩ := trodAll_cons r0
  have h1k := h1
  obtain ⟨rfl, rfl, rfl⟩ := trodAll_nil r1
  obtain rfl : args = #[v0, v1] := by cases args; simp_all
  obtain ⟨rfl, rfl⟩ := trodVars_none hV
  obtain ⟨a0, k0, rfl, n0, m0, t0, b0, _⟩ := Go.Eng.open_row (ks := [.int .u32]) Tryz.underlying22 (ElT.one Tryz.underlying34 (by kernel_rfl)) (by decide) (of_decide_eq_true (by kernel_rfl)) (by kernel_rfl) (hval 0 22 v0 rfl rfl) h0 (weights_of (gs := []) hw (j := 0) (t := 22) rfl rfl)
  obtain ⟨a1, k1, rfl, n1, m1, t1, b1, _⟩ := Go.Eng.open_row (ks := [.int .i32]) Tryz.underlying23 (ElT.one Tryz.underlying21 (by kernel_rfl)) (by decide) (of_decide_eq_true (by kernel_rfl)) (by kernel_rfl) (hval 1 23 v1 rfl rfl) h1 (weights_of (gs := []) hw (j := 1) (t := 23) rfl rfl)
  clear hA0 hval0
  refine (walk W a0 k0 n0 m0 t0 b0 a1 k1 n1 m1 t1 b1 (tabIs0 hL)).mono fun e W' ⟨he, hg⟩ => ?_
  subst he
  have hin0 : ∀ x ∈ p0, x ∈ p0 ++ (p1 ++ []) ++ [] := fun x hx => by simp [hx]
  have hlt0 : ∀ x ∈ p0, x.block < W.heap.size := fun x hx => by simpa using hW'.lt x (by simp [hx])
  have hin1 : ∀ x ∈ p1, x ∈ p0 ++ (p1 ++ []) ++ [] := fun x hx => by simp [hx]
  have hlt1 : ∀ x ∈ p1, x.block < W.heap.size := fun x hx => by simpa using hW'.lt x (by simp [hx])
  exact ⟨_, rfl, post_below (pa := _) (pv := []) hW' hg (fun _ _ _ => (trodAll_cons_mk (shut_bool Tryz.underlying4 _) trodAll_mk0)) (fun sp hsp => (trodAll_cons_mk (WideElems.Trod_stays laidOut (by kernel_rfl) (of_decide_eq_true (by kernel_rfl)) h0k (fun x hx => hg.same (hlt0 x hx)) (fun x hx => hsp x (hin0 x hx))) (trodAll_cons_mk (WideElems.Trod_stays laidOut (by kernel_rfl) (of_decide_eq_true (by kernel_rfl)) h1k (fun x hx => hg.same (hlt1 x hx)) (fun x hx => hsp x (hin1 x hx))) trodAll_mk0))) (fun _ _ => rfl) (by simp)
    (ok_one (by kernel_rfl) rfl (okWide_bool_mk Tryz.underlying4 _))⟩

theorem over : Rows.boundHoldsRow.holds Tryz.pinned (OpenSpec.ofChange Rows.boundHoldsSpec) :=
  OpenClaim.holds_of_wide 3 Tryz.f3 rfl rfl rfl rfl rfl rfl rfl ⟨rfl, rfl, rfl, rfl, rfl⟩ rfl rfl rfl rfl rfl (by kernel_rfl) Tryz.func3 (by kernel_rfl)
    (of_decide_eq_true (by kernel_rfl)) (by unfold Func.isWrapper; first | (rw [if_pos (by decide +kernel)]; kernel_rfl) | (rw [if_neg (by decide +kernel)]; exact ⟨rfl, rfl⟩))
    (fun os started H enc _ => lifted os started H enc)

/-- the statement -/
theorem proved : Rows.BoundHoldsCardSaid :=
  Claim7.holds_tied_plain_at .later [] [.data] true (true, "ff4ec4255f842bcb84d7abeb4bd3bd32155481d239fbed6427b0acd442c83cf7") false
    over (fun _ h => by cases h) (by kernel_rfl) (fun _ h => by cases h) boundHolds_row_tie rfl ⟨rfl, rfl⟩ (by kernel_rfl) rfl
    (fun f fn hf hfn => by
      obtain rfl : f = 3 := Option.some.inj ((show Tryz.prog.funcNamed "astrolabe/astrolabelaw44.BoundHolds" = some 3 by kernel_rfl).symm.trans hf) |>.symm
      obtain rfl : fn = Tryz.f3 := (Option.some.inj (Tryz.func3.symm.trans hfn)).symm
      exact ⟨by kernel_rfl, fun j t ht => by
        rw [Tryz.params3] at ht
        have h3 : t = 22 ∨ t = 23 := by
          rcases j with _ | _ | j
          · exact (.inl (by simpa using ht.symm))
          · exact (.inr (by simpa using ht.symm))
          · simp at ht
        rcases h3 with rfl | rfl
        · exact (show Tryz.prog.wantsStandIn 22 = false by kernel_rfl)
        · exact (show Tryz.prog.wantsStandIn 23 = false by kernel_rfl)⟩)
    (by kernel_rfl)
#print axioms proved
end Go.Proofs.YtppkkgicidagmabGreatDoor.boundHolds
