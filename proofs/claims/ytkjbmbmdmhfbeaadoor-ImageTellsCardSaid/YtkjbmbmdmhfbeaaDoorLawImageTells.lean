/-
  The law ImageTells answers true at every input: the law is run by the engine (a symbolic run, proved sound), the tree of its answers, as a plain statement, is shown to hold. No condition.
-/
import Derived.Test.YtkjbmbmdmhfbeaaDoorKa
import Derived.Test.YtkjbmbmdmhfbeaaDoorKb
import Derived.Test.YtkjbmbmdmhfbeaaDoorKc
import Derived.Test.YtkjbmbmdmhfbeaaDoorKd
import Derived.Test.YtkjbmbmdmhfbeaaDoorKe
import Derived.Test.YtkjbmbmdmhfbeaaDoorGab
import Derived.Test.YtkjbmbmdmhfbeaaDoorGp3
import Derived.WalkKit
import Derived.ProofKit
import Derived.OpenShut
import Derived.LaidMore
import Derived.Stop.Joined
import Derived.SevenTiedAt
import Derived.SizedLaws
import Derived.Lay
import Derived.Test.YtkjbmbmdmhfbeaaDoorCards
import Derived.Test.YtkjbmbmdmhfbeaaDoorTie
namespace Go.Proofs.YtkjbmbmdmhfbeaaDoor.imageTells
open Go.ChangeShapes Go.WideShapes Go.ChangeAt Go.Eng Go.RowKit
set_option linter.unusedVariables false
set_option linter.unusedSimpArgs false
set_option maxRecDepth 100000
def rc : Rc := ⟨3, [some 5, none], [.row [.int .u32] 140737488355328, .row [.int .i32] 140737488355328, .row [.bool] 140737488355328, .row [.int .i64] 140737488355328, .row [.int .i64] 140737488355328, .row [.int .u8] 140737488355328], [], .one, [.bool (.c 1)]⟩
theorem okb : rc.ok = true := by kernel_rfl
noncomputable def us : SMs := fun Γ ins n => smH (cxG n Γ ins) [] (smR (cxG n Γ ins) [CAwake22.rc, CIPut.rc, CRPut22.rc, CIGet.rc, CRGet22.rc, CICheck.rc, CRICheck.rc, CRWords.rc, CRSame15.rc, CRBools.rc, CRSame17.rc])
theorem us_ok : SMsOk us := fun Γ ins n => qZp (tabsG n Γ ins) (qZy _) (qZm (tabsG n Γ ins) (qQw CAwake22.okb (rc_n CAwake22.ok) (qQw CIPut.okb (rc_n CIPut.ok) (qQw CRPut22.okb (rc_n CRPut22.ok) (qQw CIGet.okb (rc_n CIGet.ok) (qQw CRGet22.okb (rc_n CRGet22.ok) (qQw CICheck.okb (rc_n CICheck.ok) (qQw CRICheck.okb (rc_n CRICheck.ok) (qQw CRWords.okb (rc_n CRWords.ok) (qQw CRSame15.okb (rc_n CRSame15.ok) (qQw CRBools.okb (rc_n CRBools.ok) (qQw CRSame17.okb (rc_n CRSame17.ok) (qZv _)))))))))))))
def Q0 : E := (tC (.v 10) (.c 0))
def Q1 : E := (tC (.v 9) Q0)
def Q2 : E := (tC (.v 4) Q1)
def Q3 : E := (tC (.v 3) Q2)
def Q4 : E := (tC (.v 2) Q3)
def Q5 : E := (.f 84 (.v 0) (.v 1) Q4)
def Q6 : E := (te Q5 (.c 0))
def Q7 : E := (tC (.v 3) (tC (.v 4) (.c 0)))
def Q8 : E := (.f 124 (.v 0) (.v 1) Q7)
def Q9 : E := (.ite Q6 Q8 (.c 0))
def Q10 : E := (.f 127 (.v 11) (.v 5) (.c 0))
def Q11 : E := (.f 128 (.v 11) (.c 0) (.c 0))
def Q12 : E := (.f 127 (.v 11) (.v 5) (.c 1))
def Q13 : E := (.f 128 (.v 11) (.c 1) (.c 0))
def Q14 : E := (.f 127 (.v 11) (.v 5) (.c 2))
def Q15 : E := (.f 128 (.v 11) (.c 2) (.c 0))
def Q16 : E := (.f 127 (.v 11) (.v 5) (.c 3))
def Q17 : E := (.f 128 (.v 11) (.c 3) (.c 0))
def Q18 : E := (.f 127 (.v 11) (.v 5) (.c 4))
def Q19 : E := (.f 128 (.v 11) (.c 4) (.c 0))
def tree : TT (List E) :=
 (.br (tl (.v 0) (.c 200)) (.br (tl (.v 1) (.c 2100)) (.br (tl (.v 2) (.c 2100)) (.br (tl (.v 3) (.c 300)) (.br (.nt (tl (.v 4) (.c 300))) (.leaf [(.c 1)]) (.br (tk (.c 3000) (.v 5)) (.leaf [(.c 1)]) (.br (tl (.v 0) (.c 1000000)) (.br (tl (.v 1) (.c 1000000)) (.br (tl (.v 2) (.c 1000000)) (.br (tl (.v 3) (.c 1000000)) (.br (tl (.v 4) (.c 1000000)) (.br (tl (.v 0) (.v 12)) (.br (tl (.v 1) (.v 13)) (.br (tl (.v 2) (.v 14)) (.br (tl (.v 3) (.v 15)) (.br (tl (.v 4) (.v 16)) (.new 1000 Q5 (.br (tl (.v 5) (.c 900000)) (.br (tl (.v 5) (.v 17)) (.br (tl (.c 0) Q9) (.br (tl Q9 (.c 1000000)) (.br (tl (.c 0) Q10) (.br (tl Q10 (.c 1000000)) (.br (.f 72 Q11 Q11 Q10) (.br (tl (.c 0) Q12) (.br (tl Q12 (.c 1000000)) (.br (.f 72 Q13 Q13 Q12) (.br (tl (.c 0) Q14) (.br (tl Q14 (.c 1000000)) (.br (.f 62 Q15
 Q15 Q14) (.br (tl (.c 0) Q16) (.br (tl Q16 (.c 1000000)) (.br (.f 32 Q17 Q17 Q16) (.br (tl (.c 0) Q18) (.br (tl Q18 (.c 1000000)) (.br (.f 32 Q19 Q19 Q18) (.leaf [(.c 1)]) (.leaf [(.c 0)])) (.bad 200)) (.bad 200)) (.leaf [(.c 0)])) (.bad 200)) (.bad 200)) (.leaf [(.c 0)])) (.bad 200)) (.bad 200)) (.leaf [(.c 0)])) (.bad 200)) (.bad 200)) (.leaf [(.c 0)])) (.bad 200)) (.bad 200)) (.bad 200)) (.bad 200)) (.bad 200)) (.bad 200))) (.bad 200)) (.bad 200)) (.bad 200)) (.bad 200)) (.bad 200)) (.bad 200)) (.bad 200)) (.bad 200)) (.bad 200)) (.bad 200)))) (.leaf [(.c 1)])) (.leaf [(.c 1)])) (.leaf [(.c 1)])) (.leaf [(.c 1)]))


def P (a b c d e f g h i j k l n o p q r s : Int) : Prop :=
 (Pb (PL a 200) (Pb (PL b 2100) (Pb (PL c 2100) (Pb (PL d 300) (Pb (Pe (PL e 300) 0) Pt (Pb (Pl 3000 f) Pt (Pm (PL a 1000000) (Pm (PL b 1000000) (Pm (PL c 1000000) (Pm (PL d 1000000) (Pm (PL e 1000000) (Pm (PL a n) (Pm (PL b o) (Pm (PL c p) (Pm (PL d q) (Pm (PL e r) (Pn (chkZ a b (kZ c (kZ d (kZ e (kZ j (kZ k 0)))))) 0 9 fun y0 => (Pm (PL f 900000) (Pm (PL f s) (Pm (PL 0 (iteZ (Pe (chkZ a b (kZ c (kZ d (kZ e (kZ j (kZ k 0)))))) 0) (putN a b (kZ d (kZ e 0))) 0)) (Pm (PL (iteZ (Pe (chkZ a b (kZ c (kZ d (kZ e (kZ j (kZ k 0)))))) 0) (putN a b (kZ d (kZ e 0))) 0) 1000000) (Pm (PL 0 (gtN l f 0)) (Pm (PL (gtN l f 0) 1000000) (Pb (qJr (gtC l 0) (gtC l 0) (gtN l f 0)) (Pm (PL 0 (gtN l f 1)) (Pm (PL (gtN l f 1) 1000000) (Pb (qJr (gtC l 1) (gtC l 1) (gtN l f 1)) (Pm (PL 0 (gtN l f 2)) (Pm (PL
 (gtN l f 2) 1000000) (Pb (sameB (gtC l 2) (gtC l 2) (gtN l f 2)) (Pm (PL 0 (gtN l f 3)) (Pm (PL (gtN l f 3) 1000000) (Pb (sameZ (gtC l 3) (gtC l 3) (gtN l f 3)) (Pm (PL 0 (gtN l f 4)) (Pm (PL (gtN l f 4) 1000000) (Pb (sameZ (gtC l 4) (gtC l 4) (gtN l f 4)) Pt Pf))) Pf))) Pf))) Pf))) Pf)))))))))))))))))))) Pt) Pt) Pt) Pt)

theorem holds (n0_0 n0_1 n0_2 n0_3 n0_4 n1 c0_0 c0_1 c0_2 c0_3 c0_4 c1 r0_0 r0_1 r0_2 r0_3 r0_4 r1 : Int) (l_n0_0 : 0 ≤ n0_0) (u_n0_0 : n0_0 ≤ 140737488355328) (l_n0_1 : 0 ≤ n0_1) (u_n0_1 : n0_1 ≤ 140737488355328) (l_n0_2 : 0 ≤ n0_2) (u_n0_2 : n0_2 ≤ 140737488355328) (l_n0_3 : 0 ≤ n0_3) (u_n0_3 : n0_3 ≤ 140737488355328) (l_n0_4 : 0 ≤ n0_4) (u_n0_4 : n0_4 ≤ 140737488355328) (l_n1 : 0 ≤ n1) (u_n1 : n1 ≤ 140737488355328) (h_n0_0 : n0_0 ≤ r0_0) (h_n0_1 : n0_1 ≤ r0_1) (h_n0_2 : n0_2 ≤ r0_2) (h_n0_3 : n0_3 ≤ r0_3) (h_n0_4 : n0_4 ≤ r0_4) (h_n1 : n1 ≤ r1) : P n0_0 n0_1 n0_2 n0_3 n0_4 n1 c0_0 c0_1 c0_2 c0_3 c0_4 c1 r0_0 r0_1 r0_2 r0_3 r0_4 r1 := by
  delta P Pb Pm Pn Pf Pt PL Pl Pe kZ
  simp only [nrm, nro, Int.reduceEq, Int.reduceNeg, reduceIte]
  simp only [chk_ev, putN_ev, putZ_ev]
  have gb : ∀ k : Int, 0 ≤ gtN c1 n1 k ∧ gtN c1 n1 k ≤ 1000000 := fun k => by
    unfold gtN gnF
    have := gnC_bd c1; have := gnD_bd c1; have := gnI_bd c1; have := gnO_bd c1
    repeat' split
    all_goals omega
  have hw : ∀ c n : Int, ¬ qJr c c n = 0 := fun c n => by rw [sameW_refl]; decide
  have hb : ∀ c n : Int, ¬ sameB c c n = 0 := fun c n => by unfold sameB; rw [if_pos fun i hi => Iff.rfl]; decide
  have hz : ∀ c n : Int, ¬ sameZ c c n = 0 := fun c n => (sameZ_iff c c n).2 fun i hi => rfl
  refine ⟨fun a0 => ⟨fun a1 => ⟨fun a2 => ⟨fun a3 => ⟨fun _ => trivial, fun a4 => ⟨fun _ => trivial, fun a5 => ⟨by omega, by omega, by omega, by omega, by omega, by omega, by omega, by omega, by omega, by omega, ?_⟩⟩⟩, fun _ => trivial⟩, fun _ => trivial⟩, fun _ => trivial⟩, fun _ => trivial⟩
  rintro y0 h0 _
  refine ⟨by omega, by omega, ?_, ?_, (gb 0).1, (gb 0).2, hw _ _, (gb 1).1, (gb 1).2, hw _ _, (gb 2).1, (gb 2).2, hb _ _, (gb 3).1, (gb 3).2, hz _ _, (gb 4).1, (gb 4).2, hz _ _⟩
  · unfold pN; split <;> omega
  · unfold pN; split <;> omega

theorem plain (i v ro p) : statR 2 rc tree ⟨i, fN, v, ro, p⟩ = P (i 0) (i 1) (i 2) (i 3) (i 4) (i 5) (i 6) (i 7) (i 8) (i 9) (i 10) (i 11) (i 12) (i 13) (i 14) (i 15) (i 16) (i 17) := by kernel_rfl
theorem ran : ranR us (fun _ _ => .auto) rc 2 tree = true := by kernel_rfl
theorem fineT : fineR 2 rc tree = true := by kernel_rfl
theorem ok : RcOk (cxOf 2) rc := okR us_ok ran fineT okb fun i v ro p hρ hcap hpre => by rw [plain]; have q := hρ.hi; exact holds _ _ _ _ _ _ _ _ _ _ _ _ _ _ _ _ _ _ (q 0 _ rfl).1 (q 0 _ rfl).2 (q 1 _ rfl).1 (q 1 _ rfl).2 (q 2 _ rfl).1 (q 2 _ rfl).2 (q 3 _ rfl).1 (q 3 _ rfl).2 (q 4 _ rfl).1 (q 4 _ rfl).2 (q 5 _ rfl).1 (q 5 _ rfl).2 (hcap _ (mg 0 rfl)) (hcap _ (mg 1 rfl)) (hcap _ (mg 2 rfl)) (hcap _ (mg 3 rfl)) (hcap _ (mg 4 rfl)) (hcap _ (mg 5 rfl))
theorem laidMet_tail {P : Program} {x : String × DataW Unit} {rest : List (String × DataW Unit)} {W : World} (h : laidMet P (x :: rest) W) : laidMet P rest W := by
  obtain ⟨ps, hl, hn, hf⟩ := h
  obtain ⟨n, d⟩ := x
  obtain ⟨g, t, cs, fuel, p, q, _, _, _, _, hq, rfl⟩ := hl
  exact ⟨q, hq, (List.nodup_append.1 hn).2.1, fun b off hm => hf b off (List.mem_append_right _ hm)⟩
theorem listE_LZ (P : Program) (l : List Int) (ro : List RO) : ∀ zs : List Int, (qZx (zs.map E.c)).ev (envR P l ro) = LZ zs
  | [] => rfl
  | z :: zs => by
    have h : (qZx ((z :: zs).map E.c)).ev (envR P l ro) = qQz z ((qZx (zs.map E.c)).ev (envR P l ro)) := rfl
    rw [h, listE_LZ P l ro zs]
    unfold qQz
    rw [ZL_LZ]
def tab0 : List Int := [0, 4129, 8258, 12387, 16516, 20645, 24774, 28903, 33032, 37161, 41290, 45419, 49548, 53677, 57806, 61935]
theorem tabG0 : Tryd.prog.globalNamed "astrolabe/crc.four" = some 0 := by kernel_rfl
theorem tabW0 : ∀ z ∈ tab0, IntKind.wrap .i32 z = z := fun z hz => by
  have h := List.all_eq_true.1 (show tab0.all (fun z => decide (IntKind.wrap .i32 z = z)) = true by kernel_rfl) z hz
  simpa using h
theorem tabIs0 {W : World} (h : laidMetH Tryd.prog Rows.imageTellsRow.laid W) : Lib.TabIs Tryd.prog W "astrolabe/crc.four" .i32 tab0 := by
  rw [MakeChecks.laidMetH_plain _ _ _ (by kernel_rfl)] at h
  exact Lib.tabIs_of_head tabG0 (t := 100) (e := 21) (n := 16) (by kernel_rfl) (by kernel_rfl) (by kernel_rfl) (by kernel_rfl) (by kernel_rfl) h

theorem walk (w : World) (a0_0 : RO) (k0_0 : a0_0.cks = [.int .u32]) (n0_0 : a0_0.a = none → a0_0.n = 0) (m0_0 : a0_0.n ≤ a0_0.cap) (t0_0 : RoAt w a0_0) (b0_0 : (a0_0.n : Int) ≤ 140737488355328) (a0_1 : RO) (k0_1 : a0_1.cks = [.int .i32]) (n0_1 : a0_1.a = none → a0_1.n = 0) (m0_1 : a0_1.n ≤ a0_1.cap) (t0_1 : RoAt w a0_1) (b0_1 : (a0_1.n : Int) ≤ 140737488355328) (a0_2 : RO) (k0_2 : a0_2.cks = [.bool]) (n0_2 : a0_2.a = none → a0_2.n = 0) (m0_2 : a0_2.n ≤ a0_2.cap) (t0_2 : RoAt w a0_2) (b0_2 : (a0_2.n : Int) ≤ 140737488355328) (a0_3 : RO) (k0_3 : a0_3.cks = [.int .i64]) (n0_3 : a0_3.a = none → a0_3.n = 0) (m0_3 : a0_3.n ≤ a0_3.cap) (t0_3 : RoAt w a0_3) (b0_3 : (a0_3.n : Int) ≤ 140737488355328) (a0_4 : RO) (k0_4 : a0_4.cks = [.int .i64]) (n0_4 : a0_4.a = none → a0_4.n = 0) (m0_4 : a0_4.n ≤ a0_4.cap) (t0_4 : RoAt w a0_4) (b0_4 : (a0_4.n : Int) ≤ 140737488355328) (a1 : RO) (k1 : a1.cks = [.int .u8]) (n1 : a1.a = none → a1.n = 0) (m1 : a1.n ≤ a1.cap) (t1 : RoAt w a1) (b1 : (a1.n : Int) ≤ 140737488355328) (tb0 : Lib.TabIs Tryd.prog w "astrolabe/crc.four" .i32 tab0) :
    Calls Tryd.prog 3 #[.agg #[.slice a0_0.a a0_0.n a0_0.cap, .slice a0_1.a a0_1.n a0_1.cap, .slice a0_2.a a0_2.n a0_2.cap, .slice a0_3.a a0_3.n a0_3.cap, .slice a0_4.a a0_4.n a0_4.cap], .slice a1.a a1.n a1.cap] w fun e w' => e = .returned (.bool true) ∧ Below w.heap.size w w' := by
  refine law_of (cx := cxOf 2) ok ⟨rfl, rfl, rfl⟩ (ρ := envR Tryd.prog [(a0_0.n : Int), (a0_1.n : Int), (a0_2.n : Int), (a0_3.n : Int), (a0_4.n : Int), (a1.n : Int), a0_0.c, a0_1.c, a0_2.c, a0_3.c, a0_4.c, a1.c, (a0_0.cap : Int), (a0_1.cap : Int), (a0_2.cap : Int), (a0_3.cap : Int), (a0_4.cap : Int), (a1.cap : Int)] [a0_0, a0_1, a0_2, a0_3, a0_4, a1, tabRo 0 .i32 tab0]) (envR_ok (cx := rc.cx (cxOf 2)) rfl rfl (bnd_cons ⟨Int.natCast_nonneg _, b0_0⟩ (bnd_cons ⟨Int.natCast_nonneg _, b0_1⟩ (bnd_cons ⟨Int.natCast_nonneg _, b0_2⟩ (bnd_cons ⟨Int.natCast_nonneg _, b0_3⟩ (bnd_cons ⟨Int.natCast_nonneg _, b0_4⟩ (bnd_cons ⟨Int.natCast_nonneg _, b1⟩ (bnd_nil _))))))) ⟨⟨k0_0, rfl, (Int.toNat_natCast _).symm, (Int.toNat_natCast _).symm, n0_0, fun g h => by cases h⟩, ⟨⟨k0_1, rfl, (Int.toNat_natCast _).symm, (Int.toNat_natCast _).symm, n0_1, fun g h => by cases h⟩, ⟨⟨k0_2, rfl, (Int.toNat_natCast _).symm, (Int.toNat_natCast _).symm, n0_2, fun g h => by cases h⟩, ⟨⟨k0_3, rfl, (Int.toNat_natCast _).symm, (Int.toNat_natCast _).symm, n0_3, fun g h => by cases h⟩, ⟨⟨k0_4, rfl, (Int.toNat_natCast _).symm, (Int.toNat_natCast _).symm, n0_4, fun g h => by cases h⟩, ⟨⟨k1, rfl, (Int.toNat_natCast _).symm, (Int.toNat_natCast _).symm, n1, fun g h => by cases h⟩, ⟨⟨rfl, (listE_LZ _ _ _ tab0).symm, rfl, rfl, (fun h => by cases h), fun g h => by cases h; rfl⟩, trivial⟩⟩⟩⟩⟩⟩⟩) (fun d hd => by
    simp only [show qXi rc.b rc.c rc.ls 0 0 0 = [⟨[.int .u32], .v 6, .v 0, .v 12, none⟩, ⟨[.int .i32], .v 7, .v 1, .v 13, none⟩, ⟨[.bool], .v 8, .v 2, .v 14, none⟩, ⟨[.int .i64], .v 9, .v 3, .v 15, none⟩, ⟨[.int .i64], .v 10, .v 4, .v 16, none⟩, ⟨[.int .u8], .v 11, .v 5, .v 17, none⟩] from rfl, List.mem_cons, List.not_mem_nil, or_false] at hd
    rcases hd with rfl | rfl | rfl | rfl | rfl | rfl
    · exact Int.ofNat_le.2 m0_0
    · exact Int.ofNat_le.2 m0_1
    · exact Int.ofNat_le.2 m0_2
    · exact Int.ofNat_le.2 m0_3
    · exact Int.ofNat_le.2 m0_4
    · exact Int.ofNat_le.2 m1) (roOk_of ⟨t0_0, ⟨t0_1, ⟨t0_2, ⟨t0_3, ⟨t0_4, ⟨t1, ⟨tabRo_at tb0 tabG0 tabW0, trivial⟩⟩⟩⟩⟩⟩⟩) ?_
  rw [show rc.args = [.agg [.sl (.inp 0) 1 (.c 0) (.v 0) (some (.v 12)), .sl (.inp 1) 1 (.c 0) (.v 1) (some (.v 13)), .sl (.inp 2) 1 (.c 0) (.v 2) (some (.v 14)), .sl (.inp 3) 1 (.c 0) (.v 3) (some (.v 15)), .sl (.inp 4) 1 (.c 0) (.v 4) (some (.v 16))], .sl (.inp 5) 1 (.c 0) (.v 5) (some (.v 17))] from rfl]
  simp only [SV.denL, SV.den, E.ev, map_addr_zero]
  rfl
theorem lifted (os : Os) (started : os.Started) (H : Type) (enc : TypeId × Value → H) :
    ReturnsInHanded {} Tryd.checked os 3 .any (fun w args => (Rows.imageTellsSpec.pre enc Tryd.prog Tryd.f3 Rows.imageTellsRow.domain false w args ∧ laidMetH Tryd.prog Rows.imageTellsRow.laid w) ∧ sizedMet enc Tryd.prog Tryd.f3 (OpenSpec.ofChange Rows.imageTellsSpec) false w args)
      (Rows.imageTellsSpec.post enc Tryd.prog Tryd.f3 false true false false) := by
  refine returnsInHanded_of_change_and (C := Tryd.checked) (X := fun w _ => laidMetH Tryd.prog Rows.imageTellsRow.laid w) (fun _ _ _ hh h => h.of_heap hh) own started (by kernel_rfl) Tryd.func3
    (ChangeSpec.witness_shaped (enc := enc) (C := Tryd.checked) (os := os) (X := fun w _ => laidMetH Tryd.prog Rows.imageTellsRow.laid w) false (World.laidAll Tryd.prog os Rows.imageTellsRow.laid) #[.agg #[.slice none 0 0, .slice none 0 0, .slice none 0 0, .slice none 0 0, .slice none 0 0], .slice none 0 0] 8 (World.laidAll_os _ _ _)
      (World.shaped_of_ZipB (by kernel_rfl) (by kernel_rfl)) (by kernel_rfl) (by kernel_rfl) (by kernel_rfl)
      (by rw [MakeChecks.laidMetH_plain _ _ _ (by kernel_rfl)]; exact laidMet_laidAll _ (by kernel_rfl) (by kernel_rfl))) ?_
  intro W base args ds gs before hval0 hW hcnd hw0 hL _
  have hval : ∀ (j : Nat) t v, Tryd.f3.params[j]? = some t → args[j]? = some v → Value.okWide Tryd.prog W .any base t v := hval0
  have hW' := hW
  obtain ⟨p, q, hA0, hV, rfl, hfz, hnd⟩ := hW
  have hA : DataW.TrodAll enc Tryd.prog W 0 (fun _ => true) true Tryd.f3.params.toList args.toList ds p := hA0
  have hw := hw0
  rw [Tryd.params3] at hA hval hw
  obtain ⟨v0, vs0, d0, ds0, p0, q0, hargs, rfl, rfl, h0, r0⟩ := trodAll_cons hA
  have h0k := h0
  obtain ⟨v1, vs1, d1, ds1, p1, q1, rfl, rfl, rfl, h1, r1⟩ := trodAll_cons r0
  have h1k := h1
  obtain ⟨rfl, rfl, rfl⟩ := trodAll_nil r1
  obtain rfl : args = #[v0, v1] := by cases args; simp_all
  obtain ⟨rfl, rfl⟩ := trodVars_none hV
  obtain ⟨ros0, hl0, rfl, hp0⟩ := Go.Eng.open_rows (kss := [[.int .u32], [.int .i32], [.bool], [.int .i64], [.int .i64]]) Tryd.underlying27 (by kernel_rfl) (by kernel_rfl) ⟨⟨⟨_, Tryd.underlying22, (ElT.one Tryd.underlying43 (by kernel_rfl)), of_decide_eq_true (by kernel_rfl), by kernel_rfl⟩, by decide⟩, ⟨⟨_, Tryd.underlying23, (ElT.one Tryd.underlying21 (by kernel_rfl)), of_decide_eq_true (by kernel_rfl), by kernel_rfl⟩, by decide⟩, ⟨⟨_, Tryd.underlying24, (ElT.one Tryd.underlying4 (by kernel_rfl)), of_decide_eq_true (by kernel_rfl), by kernel_rfl⟩, by decide⟩, ⟨⟨_, Tryd.underlying25, (ElT.one Tryd.underlying3 (by kernel_rfl)), of_decide_eq_true (by kernel_rfl), by kernel_rfl⟩, by decide⟩, ⟨⟨_, Tryd.underlying25, (ElT.one Tryd.underlying3 (by kernel_rfl)), of_decide_eq_true (by kernel_rfl), by kernel_rfl⟩, by decide⟩, trivial⟩ (hval 0 27 v0 rfl rfl) h0 (weights_of (gs := []) hw (j := 0) (t := 27) rfl rfl)
  obtain ⟨a0_0, ros0, rfl⟩ := List.exists_cons_of_length_eq_add_one hl0
  have hl0 := Nat.succ.inj hl0
  obtain ⟨a0_1, ros0, rfl⟩ := List.exists_cons_of_length_eq_add_one hl0
  have hl0 := Nat.succ.inj hl0
  obtain ⟨a0_2, ros0, rfl⟩ := List.exists_cons_of_length_eq_add_one hl0
  have hl0 := Nat.succ.inj hl0
  obtain ⟨a0_3, ros0, rfl⟩ := List.exists_cons_of_length_eq_add_one hl0
  have hl0 := Nat.succ.inj hl0
  obtain ⟨a0_4, ros0, rfl⟩ := List.exists_cons_of_length_eq_add_one hl0
  have hl0 := Nat.succ.inj hl0
  obtain rfl := List.eq_nil_of_length_eq_zero hl0
  obtain ⟨k0_0, n0_0, m0_0, t0_0, b0_0, _⟩ := hp0 0 _ _ rfl rfl
  obtain ⟨k0_1, n0_1, m0_1, t0_1, b0_1, _⟩ := hp0 1 _ _ rfl rfl
  obtain ⟨k0_2, n0_2, m0_2, t0_2, b0_2, _⟩ := hp0 2 _ _ rfl rfl
  obtain ⟨k0_3, n0_3, m0_3, t0_3, b0_3, _⟩ := hp0 3 _ _ rfl rfl
  obtain ⟨k0_4, n0_4, m0_4, t0_4, b0_4, _⟩ := hp0 4 _ _ rfl rfl
  obtain ⟨a1, k1, rfl, n1, m1, t1, b1, _⟩ := Go.Eng.open_row (ks := [.int .u8]) Tryd.underlying28 (ElT.one Tryd.underlying5 (by kernel_rfl)) (by decide) (of_decide_eq_true (by kernel_rfl)) (by kernel_rfl) (hval 1 28 v1 rfl rfl) h1 (weights_of (gs := []) hw (j := 1) (t := 28) rfl rfl)
  clear hA0 hval0
  refine (walk W a0_0 k0_0 n0_0 m0_0 t0_0 b0_0 a0_1 k0_1 n0_1 m0_1 t0_1 b0_1 a0_2 k0_2 n0_2 m0_2 t0_2 b0_2 a0_3 k0_3 n0_3 m0_3 t0_3 b0_3 a0_4 k0_4 n0_4 m0_4 t0_4 b0_4 a1 k1 n1 m1 t1 b1 (tabIs0 hL)).mono fun e W' ⟨he, hg⟩ => ?_
  subst he
  have hin0 : ∀ x ∈ p0, x ∈ p0 ++ (p1 ++ []) ++ [] := fun x hx => by simp [hx]
  have hlt0 : ∀ x ∈ p0, x.block < W.heap.size := fun x hx => by simpa using hW'.lt x (by simp [hx])
  have hin1 : ∀ x ∈ p1, x ∈ p0 ++ (p1 ++ []) ++ [] := fun x hx => by simp [hx]
  have hlt1 : ∀ x ∈ p1, x.block < W.heap.size := fun x hx => by simpa using hW'.lt x (by simp [hx])
  exact ⟨_, rfl, post_below (pa := _) (pv := []) hW' hg (fun _ _ _ => (trodAll_cons_mk (shut_bool Tryd.underlying4 _) trodAll_mk0)) (fun sp hsp => (trodAll_cons_mk (WideElems.Trod_stays laidOut (by kernel_rfl) (of_decide_eq_true (by kernel_rfl)) h0k (fun x hx => hg.same (hlt0 x hx)) (fun x hx => hsp x (hin0 x hx))) (trodAll_cons_mk (WideElems.Trod_stays laidOut (by kernel_rfl) (of_decide_eq_true (by kernel_rfl)) h1k (fun x hx => hg.same (hlt1 x hx)) (fun x hx => hsp x (hin1 x hx))) trodAll_mk0))) (fun _ _ => rfl) (by simp)
    (ok_one (by kernel_rfl) rfl (okWide_bool_mk Tryd.underlying4 _))⟩

theorem over : Rows.imageTellsRow.holds Tryd.pinned (OpenSpec.ofChange Rows.imageTellsSpec) :=
  OpenClaim.holds_of_wide 3 Tryd.f3 rfl rfl rfl rfl rfl rfl rfl ⟨rfl, rfl, rfl, rfl, rfl⟩ rfl rfl rfl rfl rfl (by kernel_rfl) Tryd.func3 (by kernel_rfl)
    (of_decide_eq_true (by kernel_rfl)) (by unfold Func.isWrapper; first | (rw [if_pos (by decide +kernel)]; kernel_rfl) | (rw [if_neg (by decide +kernel)]; exact ⟨rfl, rfl⟩))
    (fun os started H enc _ => lifted os started H enc)

/-- the statement -/
theorem proved : Rows.ImageTellsCardSaid :=
  Claim7.holds_tied_plain_at .later [] [.data] true (true, "8fda5dd2980ba18f91d6407fc53683e698c150320ab3bd6a43860f8f45dda20b") true
    over (fun _ h => by cases h) (by kernel_rfl) (fun _ h => by cases h) imageTells_row_tie rfl ⟨rfl, rfl⟩ (by kernel_rfl) rfl
    (fun f fn hf hfn => by
      obtain rfl : f = 3 := Option.some.inj ((show Tryd.prog.funcNamed "astrolabe/astrolabelaw22.ImageTells" = some 3 by kernel_rfl).symm.trans hf) |>.symm
      obtain rfl : fn = Tryd.f3 := (Option.some.inj (Tryd.func3.symm.trans hfn)).symm
      exact ⟨by kernel_rfl, fun j t ht => by
        rw [Tryd.params3] at ht
        have h3 : t = 27 ∨ t = 28 := by
          rcases j with _ | _ | j
          · exact (.inl (by simpa using ht.symm))
          · exact (.inr (by simpa using ht.symm))
          · simp at ht
        rcases h3 with rfl | rfl
        · exact (show Tryd.prog.wantsStandIn 27 = false by kernel_rfl)
        · exact (show Tryd.prog.wantsStandIn 28 = false by kernel_rfl)⟩)
    (by kernel_rfl)
#print axioms proved
end Go.Proofs.YtkjbmbmdmhfbeaaDoor.imageTells
