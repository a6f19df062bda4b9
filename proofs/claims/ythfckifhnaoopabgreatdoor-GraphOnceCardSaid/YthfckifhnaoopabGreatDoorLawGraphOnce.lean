/-
  The law GraphOnce answers true at every input: the law is run by the engine (a symbolic run, proved sound), the tree of its answers, as a plain statement, is shown to hold. No condition.
-/
import Derived.Test.YthfckifhnaoopabGreatDoorKa
import Derived.Test.YthfckifhnaoopabGreatDoorKc
import Derived.Test.YthfckifhnaoopabGreatDoorKf
import Derived.Test.YthfckifhnaoopabGreatDoorKg
import Derived.Test.YthfckifhnaoopabGreatDoorGab
import Derived.Test.YthfckifhnaoopabGreatDoorGib
import Derived.Test.YthfckifhnaoopabGreatDoorGp4
import Derived.WalkKit
import Derived.ProofKit
import Derived.OpenShut
import Derived.LaidMore
import Derived.Stop.Joined
import Derived.SevenTiedAt
import Derived.SizedLaws
import Derived.Lay
import Derived.Test.YthfckifhnaoopabGreatDoorCards
import Derived.Test.YthfckifhnaoopabGreatDoorTie
namespace Go.Proofs.YthfckifhnaoopabGreatDoor.graphOnce
open Go.ChangeShapes Go.WideShapes Go.ChangeAt Go.Eng Go.RowKit
set_option linter.unusedVariables false
set_option linter.unusedSimpArgs false
set_option maxRecDepth 100000
def rc : Rc := ⟨3, [none, none], [.row [.int .u32] 140737488355328, .row [.int .i32] 140737488355328], [], .one, [.bool (.c 1)]⟩
theorem okb : rc.ok = true := by kernel_rfl
noncomputable def us : SMs := fun Γ ins n => smH (cxG n Γ ins) [CCNew.rk.rh, CCRun0.rk.rh] (smAnd 41 (libClone41 Γ ins n) (smAnd 14 (libGAhead Γ ins n) (smAnd 16 (libGBacks Γ ins n) (smAnd 17 (libGLoop Γ ins n) (smAnd 5 (libGCyc Γ ins n) (smR (cxG n Γ ins) [CRDec.rc, CRCost16.rc, CGNext.rc, CAwake18.rc]))))))
theorem us_ok : SMsOk us := fun Γ ins n => qKw (tabsG n Γ ins) (rhs_cons CCNew.okh (rh_n CCNew.ok) (rhs_cons CCRun0.okh (rh_n CCRun0.ok) (qXj _))) (qJu (libClone41_ok Γ ins n) (qJu (libGAhead_ok CGNext.nextC Γ ins n) (qJu (libGBacks_ok CGNext.nextC Γ ins n) (qJu (libGLoop_ok CGNext.nextC Γ ins n) (qJu (libGCyc_ok CGNext.nextC Γ ins n) (qKq (tabsG n Γ ins) (qJb CRDec.okb (rc_n CRDec.ok) (qJb CRCost16.okb (rc_n CRCost16.ok) (qJb CGNext.okb (rc_n CGNext.ok) (qJb CAwake18.okb (rc_n CAwake18.ok) (qXk _)))))))))))
def Q0 : E := (.cl 1000 0 4611686018427387904)
def Q1 : E := (tR (.v 2) Q0)
def Q2 : E := (.w .u32 Q1)
def Q3 : E := (tp Q0 (.c 1))
def Q4 : E := (tl Q3 (.c 4611686018427387904))
def Q5 : E := (.f 88 (.v 2) (.v 0) (.c 0))
def Q6 : E := (.cl 1010 0 4611686018427387904)
def Q7 : E := (.f 74 (.v 3) (.c 0) (.c 0))
def Q8 : E := (tC Q7 (.c 0))
def Q9 : E := (tC (.c 200) Q8)
def Q10 : E := (tC (.v 1) Q9)
def Q11 : E := (.f 73 Q5 (.v 0) Q10)
def Q12 : E := (.f 75 Q11 (.c 0) (.c 0))
def Q13 : E := (tR Q11 (.c 5))
def Q14 : E := (tR Q13 Q6)
def Q15 : E := (tR Q14 (.c 0))
def Q16 : E := (t6 Q15)
def Q17 : E := (tp Q6 (.c 1))
def tree : TT (List E) :=
 (.br (tk (.c 60) (.v 0)) (.leaf [(.c 1)]) (.br (tk (.c 2048) (.v 1)) (.leaf [(.c 1)]) (.loop ⟨1000, [some (0, 4611686018427387904)], [(.c 0)], 1008⟩ (.br (tk Q0 (.v 0)) (.new 1002 (.f 67 Q2 (.c 0) (.c 0)) (.new 1003 (.f 67 Q2 (.c 1) (.c 0)) (.new 1004 (.f 67 Q2 (.c 2) (.c 0)) (.new 1005 (.f 67 Q2 (.c 3) (.c 0)) (.new 1006 (.f 67 Q2 (.c 4) (.c 0)) (.new 1007 (.f 67 Q2 (.c 5) (.c 0)) (.br (te (.cl 1007 (-32768) 65535) (.c 0)) (.br (te (.cl 1002 (-32768) 65535) (.c 41)) (.exit 0) (.br Q4 (.back [Q3]) (.bad 303))) (.br Q4 (.back [Q3]) (.bad 303))))))))) (.exit 1)) (.br (te (.v 1008) (.c 0)) (.leaf [(.c 1)]) (.br (tl (.v 0) (.v 4)) (.br (tl (.v 0) (.c 64)) (.br (.f 170 (.v 2) (.v 0) (.c 0)) (.leaf [(.c 1)]) (.br (tl (.v 0) (.c 16384)) (.br (tl (.v 1) (.c 2048)) (.br (.f 68 Q5 (.v 0) (.c 0))
 (.br (tl (.v 0) (.c 1000000)) (.loop ⟨1010, [some (0, 4611686018427387904), none], [(.c 0), (.c 0)], 1013⟩ (.br (tk Q6 Q12) (.br (tk Q16 (.c 0)) (.exit 0) (.br (tl (.v 0) Q16) (.exit 1) (.br (tl (.c 0) Q16) (.br (tk Q16 (.v 0)) (.br (tR (.v 1011) Q16) (.exit 2) (.br (tl Q17 (.c 4611686018427387904)) (.back [Q17, (.f 14 (.v 1011) Q16 (.c 1))]) (.bad 303))) (.bad 200)) (.bad 200)))) (.exit 3)) (.br (te (.v 1013) (.c 0)) (.leaf [(.c 0)]) (.br (te (.v 1013) (.c 1)) (.leaf [(.c 0)]) (.br (te (.v 1013) (.c 2)) (.leaf [(.c 0)]) (.br (tl Q12 (.v 0)) (.new 1015 Q12 (.new 1016 (.f 35 Q13 (.cl 1015 0 999999) (.c 0)) (.br (tl Q12 (.cl 1016 (-9223372036854775808) 9223372036854775807)) (.leaf [(.c 1)]) (.leaf [(.c 0)])))) (.leaf [(.c 0)])))))) (.bad 200)) (.bad 200)) (.bad 200)) (.bad 200))) (.bad
 200)) (.bad 200))))))

noncomputable def sq0 (c a b d : Int) : Int := (runP (decW c a) a (kZ b (kZ 200 (kZ (nuP d) 0))))
def sq1 (a e c b d : Int) : Prop := (Pm (PL a e) (Pm (PL a 64) (Pb (cycZ c a) Pt (Pm (PL a 16384) (Pm (PL b 2048) (Pm (okC (decW c a) a) (Pm (PL a 1000000) (∃ I1010 : Int → Int → Nat → Prop, (∃ m, I1010 0 0 m) ∧ ∀ y10 y11 : Int, ∀ m10, ((0 ≤ y10 ∧ y10 ≤ 4611686018427387904) ∧ True ∧ True) → I1010 y10 y11 m10 → (Pb (Pl y10 (mkN (sq0 c a b d))) (Pb (Pl (W6 (rdZ (rdZ (rdZ (sq0 c a b d) 5) y10) 0)) 0) (Pb (Pe (0 : Int) 0) Pf (Pb (Pe (0 : Int) 1) Pf (Pb (Pe (0 : Int) 2) Pf (Pb (PL (mkN (sq0 c a b d)) a) (Pn (mkN (sq0 c a b d)) 0 999999 fun y15 => Pn (costZ (rdZ (sq0 c a b d) 5) y15) (-9223372036854775808) 9223372036854775807 fun y16 => (Pb (PL (mkN (sq0 c a b d)) y16) Pt Pf)) Pf)))) (Pb (PL a (W6 (rdZ (rdZ (rdZ (sq0 c a b d) 5) y10) 0))) (Pb (Pe (1 : Int) 0) Pf (Pb (Pe (1 : Int) 1) Pf (Pb (Pe
 (1 : Int) 2) Pf (Pb (PL (mkN (sq0 c a b d)) a) (Pn (mkN (sq0 c a b d)) 0 999999 fun y15 => Pn (costZ (rdZ (sq0 c a b d) 5) y15) (-9223372036854775808) 9223372036854775807 fun y16 => (Pb (PL (mkN (sq0 c a b d)) y16) Pt Pf)) Pf)))) (Pm (PL 0 (W6 (rdZ (rdZ (rdZ (sq0 c a b d) 5) y10) 0))) (Pm (Pl (W6 (rdZ (rdZ (rdZ (sq0 c a b d) 5) y10) 0)) a) (Pb (rdZ y11 (W6 (rdZ (rdZ (rdZ (sq0 c a b d) 5) y10) 0))) (Pb (Pe (2 : Int) 0) Pf (Pb (Pe (2 : Int) 1) Pf (Pb (Pe (2 : Int) 2) Pf (Pb (PL (mkN (sq0 c a b d)) a) (Pn (mkN (sq0 c a b d)) 0 999999 fun y15 => Pn (costZ (rdZ (sq0 c a b d) 5) y15) (-9223372036854775808) 9223372036854775807 fun y16 => (Pb (PL (mkN (sq0 c a b d)) y16) Pt Pf)) Pf)))) (Pm (PL (y10 + 1) 4611686018427387904) (∃ m', m' < m10 ∧ I1010 (y10 + 1) (updZ y11 (W6 (rdZ (rdZ (rdZ (sq0 c a
 b d) 5) y10) 0)) 1) m'))))))) (Pb (Pe (3 : Int) 0) Pf (Pb (Pe (3 : Int) 1) Pf (Pb (Pe (3 : Int) 2) Pf (Pb (PL (mkN (sq0 c a b d)) a) (Pn (mkN (sq0 c a b d)) 0 999999 fun y15 => Pn (costZ (rdZ (sq0 c a b d) 5) y15) (-9223372036854775808) 9223372036854775807 fun y16 => (Pb (PL (mkN (sq0 c a b d)) y16) Pt Pf)) Pf)))))))))))))
def P (a b c d e f : Int) : Prop :=
 (Pb (Pl 60 a) Pt (Pb (Pl 2048 b) Pt (∃ I1000 : Int → Nat → Prop, (∃ m, I1000 0 m) ∧ ∀ y0 : Int, ∀ m0, ((0 ≤ y0 ∧ y0 ≤ 4611686018427387904) ∧ True) → I1000 y0 m0 → (Pb (Pl y0 a) (Pn (decZ (U3 (rdZ c y0)) 0) (-32768) 65535 fun y2 => Pn (decZ (U3 (rdZ c y0)) 1) (-32768) 65535 fun y3 => Pn (decZ (U3 (rdZ c y0)) 2) (-32768) 65535 fun y4 => Pn (decZ (U3 (rdZ c y0)) 3) (-32768) 65535 fun y5 => Pn (decZ (U3 (rdZ c y0)) 4) (-32768) 65535 fun y6 => Pn (decZ (U3 (rdZ c y0)) 5) (-32768) 65535 fun y7 => (Pb (Pe y7 0) (Pb (Pe y2 41) (Pb (Pe (0 : Int) 0) Pt (sq1 a e c b d)) (Pm (PL (y0 + 1) 4611686018427387904) (∃ m', m' < m0 ∧ I1000 (y0 + 1) m'))) (Pm (PL (y0 + 1) 4611686018427387904) (∃ m', m' < m0 ∧ I1000 (y0 + 1) m')))) (Pb (Pe (1 : Int) 0) Pt (sq1 a e c b d))))))

set_option maxHeartbeats 4000000 in
theorem holds (n0 n1 c0 c1 r0 r1 : Int) (l_n0 : 0 ≤ n0) (u_n0 : n0 ≤ 140737488355328) (l_n1 : 0 ≤ n1) (u_n1 : n1 ≤ 140737488355328) (h_n0 : n0 ≤ r0) (h_n1 : n1 ≤ r1) : P n0 n1 c0 c1 r0 r1 := by
  delta P sq0 sq1 Pb Pm Pn Pf Pt PL Pl Pe W6 U3 kZ
  simp only [nrm, nro, Int.reduceEq, Int.reduceNeg, reduceIte]
  refine ⟨fun _ => trivial, fun hn => ⟨fun _ => trivial, fun hn1 => ?_⟩⟩
  obtain ⟨N, rfl⟩ := Int.eq_ofNat_of_zero_le l_n0
  refine ⟨fun p m => (0 ≤ p ∧ p ≤ N) ∧ (∀ x : Nat, (x : Int) < p → decZ (IntKind.wrap .u32 (rdZ c0 x)) 5 = 0 → decZ (IntKind.wrap .u32 (rdZ c0 x)) 0 ≠ 41) ∧ m = (N - p).toNat, ⟨_, ⟨by omega, by omega⟩, fun x hx => by omega, rfl⟩, ?_⟩
  rintro p m ⟨p8, p9⟩ ⟨⟨q0, q1⟩, hJ, rfl⟩
  refine ⟨fun plt => ?_, fun pge => ?_⟩
  · obtain ⟨x, rfl⟩ := Int.eq_ofNat_of_zero_le q0
    rintro y0 e0 - y1 - - y2 - - y3 - - y4 - - y5 e5 -
    have next : ¬(y5 = 0 ∧ y0 = 41) → ∀ z : Nat, (z : Int) < x + 1 → decZ (IntKind.wrap .u32 (rdZ c0 z)) 5 = 0 → decZ (IntKind.wrap .u32 (rdZ c0 z)) 0 ≠ 41 := fun h z hz h5 h0 => by
      by_cases g : z = x
      · subst g; exact h ⟨e5.trans h5, e0.trans h0⟩
      · exact hJ z (by omega) h5 h0
    exact ⟨fun h5 => ⟨fun _ => trivial, fun h0 => ⟨by omega, _, by omega, ⟨by omega, by omega⟩, next (fun g => h0 g.2), rfl⟩⟩, fun h5 => ⟨by omega, _, by omega, ⟨by omega, by omega⟩, next (fun g => h5 g.1), rfl⟩⟩
  have hjr : NoJr c0 N := fun x hx => hJ x (by omega)
  have hok : ¬okC (decW c0 N) N = 0 := okC_dec c0 N
  refine ⟨h_n0, by omega, fun _ => trivial, fun hcy => ?_⟩
  have hcy : ¬Cyc (nxf c0 N) := fun g => cyc_ne.2 g hcy
  obtain ⟨a, hR, e5, eN, hnm, hco⟩ := run_rn (w := c0) (N := N) (nr := n1) (fuel := 200) (rm := c1) (by omega) hjr l_n1 (by omega) (by omega)
  generalize runP (decW c0 N) N _ = R at e5 eN ⊢
  simp only [e5, eN, show ∀ i f : Int, IntKind.wrap .i64 (rdZ (rdZ a.mq i) f) = mk a.mq i f from fun _ _ => rfl]
  clear e5 eN hJ
  refine ⟨by omega, by omega, hok, by omega, ?_⟩
  have hm0 := hR.nm0
  have hlen := rn_len hR hcy
  refine ⟨fun i q m => (0 ≤ i ∧ i ≤ a.nm) ∧ (∀ x : Nat, rdZ q x ≠ 0 → ∃ j : Nat, (j : Int) < i ∧ mk a.mq j 0 = x) ∧ m = (a.nm - i).toNat, ⟨_, ⟨by omega, by omega⟩, fun x hx => absurd (rd_zero _) hx, rfl⟩, ?_⟩
  rintro i q m ⟨i8, i9⟩ ⟨⟨i0, i1⟩, hS, rfl⟩
  refine ⟨fun ilt => ?_, fun ige => ?_⟩
  · obtain ⟨k, rfl⟩ := Int.eq_ofNat_of_zero_le i0
    obtain ⟨r0', r1'⟩ := hR.rng k ilt
    have hS' : ∀ x : Nat, rdZ (updZ q (mk a.mq k 0) 1) x ≠ 0 → ∃ j : Nat, (j : Int) < (k : Int) + 1 ∧ mk a.mq j 0 = x := fun x hx => by
      rw [qZs] at hx
      split at hx
      · exact ⟨k, by omega, by omega⟩
      · obtain ⟨j, h1, h2⟩ := hS x hx
        exact ⟨j, by omega, h2⟩
    refine ⟨fun h => by omega, fun _ => ⟨fun h => by omega, fun _ => ⟨r0', r1', fun h => ?_, fun _ => ⟨by omega, _, by omega, ⟨by omega, by omega⟩, hS', rfl⟩⟩⟩⟩
    obtain ⟨x, hx⟩ := Int.eq_ofNat_of_zero_le r0'
    rw [hx] at h
    obtain ⟨j, h1, h2⟩ := hS x h
    exact rn_once hR hcy (i := j) (j := k) (by omega) ilt (h2.trans hx.symm)
  · refine ⟨hlen, ?_⟩
    rintro y rfl - z rfl -
    obtain ⟨K, hK⟩ := Int.eq_ofNat_of_zero_le hm0
    have := (cost_ge (c := a.mq) (k := K) (by omega) fun i hi => hco i (by omega)).1
    unfold costZ
    rw [hK, Int.toNat_natCast]
    exact this

theorem plain (i v ro p) : statR 2 rc tree ⟨i, fN, v, ro, p⟩ = P (i 0) (i 1) (i 2) (i 3) (i 4) (i 5) := by kernel_rfl
theorem ran : ranR us (fun _ _ => .auto) rc 2 tree = true := by kernel_rfl
theorem fineT : fineR 2 rc tree = true := by kernel_rfl
theorem ok : RcOk (cxOf 2) rc := okR us_ok ran fineT okb fun i v ro p hρ hcap hpre => by rw [plain]; have q := hρ.hi; exact holds _ _ _ _ _ _ (q 0 _ rfl).1 (q 0 _ rfl).2 (q 1 _ rfl).1 (q 1 _ rfl).2 (hcap _ (mg 0 rfl)) (hcap _ (mg 1 rfl))
theorem laidMet_tail {P : Program} {x : String × DataW Unit} {rest : List (String × DataW Unit)} {W : World} (h : laidMet P (x :: rest) W) : laidMet P rest W := by
  obtain ⟨ps, hl, hn, hf⟩ := h
  obtain ⟨n, d⟩ := x
  obtain ⟨g, t, cs, fuel, p, q, _, _, _, _, hq, rfl⟩ := hl
  exact ⟨q, hq, (List.nodup_append.1 hn).2.1, fun b off hm => hf b off (List.mem_append_right _ hm)⟩
theorem listE_LZ (P : Program) (l : List Int) (ro : List RO) : ∀ zs : List Int, (qQp (zs.map E.c)).ev (envR P l ro) = LZ zs
  | [] => rfl
  | z :: zs => by
    have h : (qQp ((z :: zs).map E.c)).ev (envR P l ro) = qQq z ((qQp (zs.map E.c)).ev (envR P l ro)) := rfl
    rw [h, listE_LZ P l ro zs]
    unfold qQq
    rw [ZL_LZ]
def tab0 : List Int := [1, 1, 1, 1, 1, 1, 1, 1, 1, 1, 1, 1, 1, 1, 1, 1, 1, 3, 3, 3, 3, 2, 2, 1, 1, 1, 1, 1, 1, 1, 1, 1, 1, 2, 2, 1, 1, 1, 3, 3, 3, 1, 1]
theorem tabG0 : Tryz.prog.globalNamed "astrolabe/ops.costs" = some 0 := by kernel_rfl
theorem tabW0 : ∀ z ∈ tab0, IntKind.wrap .i64 z = z := fun z hz => by
  have h := List.all_eq_true.1 (show tab0.all (fun z => decide (IntKind.wrap .i64 z = z)) = true by kernel_rfl) z hz
  simpa using h
theorem tabIs0 {W : World} (h : laidMetH Tryz.prog Rows.graphOnceRow.laid W) : Lib.TabIs Tryz.prog W "astrolabe/ops.costs" .i64 tab0 := by
  rw [MakeChecks.laidMetH_plain _ _ _ (by kernel_rfl)] at h
  exact Lib.tabIs_of_head tabG0 (t := 143) (e := 3) (n := 43) (by kernel_rfl) (by kernel_rfl) (by kernel_rfl) (by kernel_rfl) (by kernel_rfl) h

theorem walk (w : World) (a0 : RO) (k0 : a0.cks = [.int .u32]) (n0 : a0.a = none → a0.n = 0) (m0 : a0.n ≤ a0.cap) (t0 : RoAt w a0) (b0 : (a0.n : Int) ≤ 140737488355328) (a1 : RO) (k1 : a1.cks = [.int .i32]) (n1 : a1.a = none → a1.n = 0) (m1 : a1.n ≤ a1.cap) (t1 : RoAt w a1) (b1 : (a1.n : Int) ≤ 140737488355328) (tb0 : Lib.TabIs Tryz.prog w "astrolabe/ops.costs" .i64 tab0) :
    Calls Tryz.prog 3 #[.slice a0.a a0.n a0.cap, .slice a1.a a1.n a1.cap] w fun e w' => e = .returned (.bool true) ∧ Below w.heap.size w w' := by
  refine law_of (cx := cxOf 2) ok ⟨rfl, rfl, rfl⟩ (ρ := envR Tryz.prog [(a0.n : Int), (a1.n : Int), a0.c, a1.c, (a0.cap : Int), (a1.cap : Int)] [a0, a1, tabRo 0 .i64 tab0]) (envR_ok (cx := rc.cx (cxOf 2)) rfl rfl (bnd_cons ⟨Int.natCast_nonneg _, b0⟩ (bnd_cons ⟨Int.natCast_nonneg _, b1⟩ (bnd_nil _))) ⟨⟨k0, rfl, (Int.toNat_natCast _).symm, (Int.toNat_natCast _).symm, n0, fun g h => by cases h⟩, ⟨⟨k1, rfl, (Int.toNat_natCast _).symm, (Int.toNat_natCast _).symm, n1, fun g h => by cases h⟩, ⟨⟨rfl, (listE_LZ _ _ _ tab0).symm, rfl, rfl, (fun h => by cases h), fun g h => by cases h; exact ⟨rfl, rfl⟩⟩, trivial⟩⟩⟩) (fun d hd => by
    simp only [show qXg rc.b rc.c rc.ls 0 0 0 = [⟨[.int .u32], .v 2, .v 0, .v 4, none⟩, ⟨[.int .i32], .v 3, .v 1, .v 5, none⟩] from rfl, List.mem_cons, List.not_mem_nil, or_false] at hd
    rcases hd with rfl | rfl
    · exact Int.ofNat_le.2 m0
    · exact Int.ofNat_le.2 m1) (roOk_of ⟨t0, ⟨t1, ⟨tabRo_at tb0 tabG0 tabW0, trivial⟩⟩⟩) ?_
  rw [show rc.args = [.sl (.inp 0) 1 (.c 0) (.v 0) (some (.v 4)), .sl (.inp 1) 1 (.c 0) (.v 1) (some (.v 5))] from rfl]
  simp only [SV.denL, SV.den, E.ev, qKx]
  rfl
theorem lifted (os : Os) (started : os.Started) (H : Type) (enc : TypeId × Value → H) :
    ReturnsInHanded {} Tryz.checked os 3 .any (fun w args => (Rows.graphOnceSpec.pre enc Tryz.prog Tryz.f3 Rows.graphOnceRow.domain false w args ∧ laidMetH Tryz.prog Rows.graphOnceRow.laid w) ∧ sizedMet enc Tryz.prog Tryz.f3 (OpenSpec.ofChange Rows.graphOnceSpec) false w args)
      (Rows.graphOnceSpec.post enc Tryz.prog Tryz.f3 false true false false) := by
  refine returnsInHanded_of_change_and (C := Tryz.checked) (X := fun w _ => laidMetH Tryz.prog Rows.graphOnceRow.laid w) (fun _ _ _ hh h => h.of_heap hh) own started (by kernel_rfl) Tryz.func3
    (ChangeSpec.witness_shaped (enc := enc) (C := Tryz.checked) (os := os) (X := fun w _ => laidMetH Tryz.prog Rows.graphOnceRow.laid w) false (World.laidAll Tryz.prog os Rows.graphOnceRow.laid) #[.slice none 0 0, .slice none 0 0] 8 (World.laidAll_os _ _ _)
      (World.shaped_of_ZipB (by kernel_rfl) (by kernel_rfl)) (by kernel_rfl) (by kernel_rfl) (by kernel_rfl)
      (by rw [MakeChecks.laidMetH_plain _ _ _ (by kernel_rfl)]; exact laidMet_laidAll _ (by kernel_rfl) (by kernel_rfl))) ?_
  intro W base args ds gs before hval0 hW hcnd hw0 hL _
  have hval : ∀ (j : Nat) t v, Tryz.f3.params[j]? = some t → args[j]? = some v → Value.okWide Tryz.prog W .any base t v := hval0
  have hW' := hW
  obtain ⟨p, q, hA0, hV, rfl, hfz, hnd⟩ := hW
  have hA : DataW.TrodAll enc Tryz.prog W 0 (fun _ => true) true Tryz.f3.params.toList args.toList ds p := hA0
  have hw := hw0
  rw [Tryz.params3] at hA hval hw
  obtain ⟨v0, vs0, d0, ds0, p0, q0, hargs, rfl, rfl, h0, r0⟩ := trodAll_cons hA
  have h0k := h0
  obtain ⟨v1, vs1, d1, ds1, p1, q1, rfl, rfl, rfl, h1, r1⟩ := trodAll_cons r0
  have h1k := h1
  obtain ⟨rfl, rfl, rfl⟩ := trodAll_nil r1
  obtain rfl : args = #[v0, v1] := by cases args; simp_all
  obtain ⟨rfl, rfl⟩ := trodVars_none hV
  obtain ⟨a0, k0, rfl, n0, m0, t0, b0, _⟩ := Go.Eng.open_row (ks := [.int .u32]) Tryz.underlying22 (ElT.one Tryz.underlying38 (by kernel_rfl)) (by decide) (of_decide_eq_true (by kernel_rfl)) (by kernel_rfl) (hval 0 22 v0 rfl rfl) h0 (weights_of (gs := []) hw (j := 0) (t := 22) rfl rfl)
  obtain ⟨a1, k1, rfl, n1, m1, t1, b1, _⟩ := Go.Eng.open_row (ks := [.int .i32]) Tryz.underlying23 (ElT.one Tryz.underlying21 (by kernel_rfl)) (by decide) (of_decide_eq_true (by kernel_rfl)) (by kernel_rfl) (hval 1 23 v1 rfl rfl) h1 (weights_of (gs := []) hw (j := 1) (t := 23) rfl rfl)
  clear hA0 hval0
  refine (walk W a0 k0 n0 m0 t0 b0 a1 k1 n1 m1 t1 b1 (tabIs0 hL)).mono fun e W' ⟨he, hg⟩ => ?_
  subst he
  have hin0 : ∀ x ∈ p0, x ∈ p0 ++ (p1 ++ []) ++ [] := fun x hx => by simp [hx]
  have hlt0 : ∀ x ∈ p0, x.block < W.heap.size := fun x hx => by simpa using hW'.lt x (by simp [hx])
  have hin1 : ∀ x ∈ p1, x ∈ p0 ++ (p1 ++ []) ++ [] := fun x hx => by simp [hx]
  have hlt1 : ∀ x ∈ p1, x.block < W.heap.size := fun x hx => by simpa using hW'.lt x (by simp [hx])
  exact ⟨_, rfl, post_below (pa := _) (pv := []) hW' hg (fun _ _ _ => (trodAll_cons_mk (shut_bool Tryz.underlying4 _) trodAll_mk0)) (fun sp hsp => (trodAll_cons_mk (WideElems.Trod_stays laidOut (by kernel_rfl) (of_decide_eq_true (by kernel_rfl)) h0k (fun x hx => hg.same (hlt0 x hx)) (fun x hx => hsp x (hin0 x hx))) (trodAll_cons_mk (WideElems.Trod_stays laidOut (by kernel_rfl) (of_decide_eq_true (by kernel_rfl)) h1k (fun x hx => hg.same (hlt1 x hx)) (fun x hx => hsp x (hin1 x hx))) trodAll_mk0))) (fun _ _ => rfl) (by simp)
    (ok_one (by kernel_rfl) rfl (okWide_bool_mk Tryz.underlying4 _))⟩

theorem over : Rows.graphOnceRow.holds Tryz.pinned (OpenSpec.ofChange Rows.graphOnceSpec) :=
  OpenClaim.holds_of_wide 3 Tryz.f3 rfl rfl rfl rfl rfl rfl rfl ⟨rfl, rfl, rfl, rfl, rfl⟩ rfl rfl rfl rfl rfl (by kernel_rfl) Tryz.func3 (by kernel_rfl)
    (of_decide_eq_true (by kernel_rfl)) (by unfold Func.isWrapper; first | (rw [if_pos (by decide +kernel)]; kernel_rfl) | (rw [if_neg (by decide +kernel)]; exact ⟨rfl, rfl⟩))
    (fun os started H enc _ => lifted os started H enc)

/-- the statement -/
theorem proved : Rows.GraphOnceCardSaid :=
  Claim7.holds_tied_plain_at .later [] [.data] true (true, "27e0754a92f5b7f7bcccec73972881dfef80889151914ed620c144d7dc2facd2") false
    over (fun _ h => by cases h) (by kernel_rfl) (fun _ h => by cases h) graphOnce_row_tie rfl ⟨rfl, rfl⟩ (by kernel_rfl) rfl
    (fun f fn hf hfn => by
      obtain rfl : f = 3 := Option.some.inj ((show Tryz.prog.funcNamed "astrolabe/astrolabelaw18.GraphOnce" = some 3 by kernel_rfl).symm.trans hf) |>.symm
      obtain rfl : fn = Tryz.f3 := (Option.some.inj (Tryz.func3.symm.trans hfn)).symm
      exact ⟨by kernel_rfl, fun j t ht => by
        rw [Tryz.params3] at ht
        have h3 : t = 22 ∨ t = 23 := by
          rcases j with _ | _ | j
          · exact (.inl (by simpa using ht.symm))
          · exact (.inr (by simpa using ht.symm))
          · simp at ht
        rcases h3 with rfl | rfl
        · exact (show Tryz.prog.wantsStandIn 22 = false by kernel_rfl)
        · exact (show Tryz.prog.wantsStandIn 23 = false by kernel_rfl)⟩)
    (by kernel_rfl)
#print axioms proved
end Go.Proofs.YthfckifhnaoopabGreatDoor.graphOnce
