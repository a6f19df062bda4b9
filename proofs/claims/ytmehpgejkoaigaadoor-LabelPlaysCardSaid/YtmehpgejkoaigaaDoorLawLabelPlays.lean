/-
  The law LabelPlays answers true at every input: the law is run by the engine (a symbolic run, proved sound), the tree of its answers, as a plain statement, is shown to hold. No condition.
-/
import Derived.Test.YtmehpgejkoaigaaDoorKa
import Derived.Test.YtmehpgejkoaigaaDoorKb
import Derived.Test.YtmehpgejkoaigaaDoorGab
import Derived.Test.YtmehpgejkoaigaaDoorGib
import Derived.Test.YtmehpgejkoaigaaDoorGp1
import Derived.WalkKit
import Derived.ProofKit
import Derived.OpenShut
import Derived.LaidMore
import Derived.Stop.Joined
import Derived.SevenTiedAt
import Derived.SizedLaws
import Derived.Lay
import Derived.Test.YtmehpgejkoaigaaDoorCards
import Derived.Test.YtmehpgejkoaigaaDoorTie
import Derived.Shelf.Vars
import Derived.Stop.LaidErr
import Derived.LaidLaws
import Derived.Handed
import Derived.LaidHandle
namespace Go.Proofs.YtmehpgejkoaigaaDoor.labelPlays
open Go.ChangeShapes Go.WideShapes Go.ChangeAt Go.Eng Go.RowKit
set_option linter.unusedVariables false
set_option linter.unusedSimpArgs false
set_option maxRecDepth 100000
def rc : Rc := ⟨3, [none, none], [.row [.bool, .str, .int .i64] 140737488355328, .str], [], .one, [.bool (.c 1)]⟩
theorem okb : rc.ok = true := by kernel_rfl
noncomputable def us : SMs := fun Γ ins n => smH (cxG n Γ ins) [CLDef.rk.rh, CLUse.rk.rh, CLRes.rk.rh, CLPlc.rk.rh, CRDef19.rk.rh, CRUse19.rk.rh, CRPlc19.rk.rh, CRRes19.rk.rh, CRNames19.rk.rh] (smAnd 16 (libNames Γ ins n) (smR (cxG n Γ ins) [CRSame19.rc, CRTexts14.rc, CPIs.rc, CRIs.rc, CAwake19.rc]))
theorem us_ok : SMsOk us := fun Γ ins n => qXr (tabsG n Γ ins) (qZn CLDef.okh (rh_n CLDef.ok) (qZn CLUse.okh (rh_n CLUse.ok) (qZn CLRes.okh (rh_n CLRes.ok) (qZn CLPlc.okh (rh_n CLPlc.ok) (qZn CRDef19.okh (rh_n CRDef19.ok) (qZn CRUse19.okh (rh_n CRUse19.ok) (qZn CRPlc19.okh (rh_n CRPlc19.ok) (qZn CRRes19.okh (rh_n CRRes19.ok) (qZn CRNames19.okh (rh_n CRNames19.ok) (qJn _)))))))))) (smAnd_ok (libNames_ok Γ ins n) (qXg (tabsG n Γ ins) (qXq CRSame19.okb (rc_n CRSame19.ok) (qXq CRTexts14.okb (rc_n CRTexts14.ok) (qXq CPIs.okb (rc_n CPIs.ok) (qXq CRIs.okb (rc_n CRIs.ok) (qXq CAwake19.okb (rc_n CAwake19.ok) (qJo _))))))))
def Q0 : E := (.cl 1000 0 4611686018427387904)
def Q1 : E := (tR (.v 1) Q0)
def Q2 : E := (tR Q1 (.c 1))
def Q3 : E := (tR Q1 (.c 2))
def Q4 : E := (t6 Q3)
def Q5 : E := (.cl 1002 0 1000000)
def Q6 : E := (.f 53 Q2 (.c 0) (.c 0))
def Q7 : E := (.f 26 (.v 1001) Q5 Q2)
def Q8 : E := (tl (.c 0) Q7)
def Q9 : E := (.cl 1006 0 1000000)
def Q10 : E := (.f 26 (.v 1005) Q9 Q2)
def Q11 : E := (tl (.c 0) Q10)
def Q12 : E := (tp Q0 (.c 1))
def Q13 : E := (tl Q12 (.c 4611686018427387904))
def Q14 : E := (.ite Q8 (.c 0) (.c 1))
def Q15 : E := (.ite Q6 Q14 (.c 0))
def Q16 : E := (tp Q5 Q15)
def Q17 : E := (.ite Q11 (.c 0) (.c 1))
def Q18 : E := (.ite Q6 Q17 (.c 0))
def Q19 : E := (tp Q9 Q18)
def Q20 : E := (.cl 1010 (-9223372036854775808) 9223372036854775807)
def Q21 : E := (tC Q20 (.c 0))
def Q22 : E := (tC Q2 Q21)
def Q23 : E := (.cl 1004 0 1000000)
def Q24 : E := (.cl 1008 0 1000000)
def Q25 : E := (tp Q23 Q6)
def Q26 : E := (tp Q24 Q6)
def Q27 : E := (tC Q23 (.c 0))
def Q28 : E := (tC (.v 1003) Q27)
def Q29 : E := (.f 150 (.v 1001) Q5 Q28)
def Q30 : E := (tk Q29 (.c 0))
def Q31 : E := (tC Q24 (.c 0))
def Q32 : E := (tC (.v 1007) Q31)
def Q33 : E := (.f 150 (.v 1005) Q9 Q32)
def Q34 : E := (tk Q33 (.c 0))
def Q35 : E := (tC (.c 0) (tC (.c 0) (.c 0)))
def Q36 : E := (.f 26 (.v 1001) Q5 (.v 2))
def Q37 : E := (tl (.c 0) Q36)
def Q38 : E := (.f 26 (.v 1005) Q9 (.v 2))
def Q39 : E := (tl (.c 0) Q38)
def tree : TT (List E) :=
 (.br (tk (.c 100) (.v 0)) (.leaf [(.c 1)]) (.br (tk (.c 100) (.f 21 (.v 2) (.c 0) (.c 0))) (.leaf [(.c 1)]) (.loop ⟨1000, [some (0, 4611686018427387904), none, some (0, 1000000), none, some (0, 1000000), none, some (0, 1000000), none, some (0, 1000000)], [(.c 0), (.c 0), (.c 0), (.c 0), (.c 0), (.c 0), (.c 0), (.c 0), (.c 0)], 1013⟩ (.br (tk Q0 (.v 0)) (.br (tk (.c 100) (.f 21 Q2 (.c 0) (.c 0))) (.exit 0) (.br (tR Q1 (.c 0)) (.new 1010 Q4 (.br (tl Q5 (.c 999999)) (.new 1011 (.ite Q6 (.ite Q8 (.c 9) (.c 0)) (.c 8)) (.br (tl Q9 (.c 999999)) (.new 1012 (.ite Q6 (.ite Q11 (.c 9) (.c 0)) (.c 8)) (.br (tn (.cl 1011 0 9) (.cl 1012 0 9)) (.exit 1) (.br Q13 (.br (tl Q16 (.c 1000000)) (.br (tl Q19 (.c 1000000)) (.back [Q12, (.ite Q15 (.f 14 (.v 1001) Q5 Q22) (.v 1001)), Q16, (.v 1003), Q23, (.ite
 Q18 (.f 14 (.v 1005) Q9 Q22) (.v 1005)), Q19, (.v 1007), Q24]) (.bad 303)) (.bad 303)) (.bad 303)))) (.bad 200))) (.bad 200))) (.new 1010 Q4 (.br (tl Q23 (.c 999999)) (.new 1011 (.ite Q6 (.c 0) (.c 8)) (.br (tl Q24 (.c 999999)) (.br Q13 (.br (tl Q25 (.c 1000000)) (.br (tl Q26 (.c 1000000)) (.back [Q12, (.v 1001), Q5, (.ite Q6 (.f 14 (.v 1003) Q23 Q22) (.v 1003)), Q25, (.v 1005), Q9, (.ite Q6 (.f 14 (.v 1007) Q24 Q22) (.v 1007)), Q26]) (.bad 303)) (.bad 303)) (.bad 303)) (.bad 200))) (.bad 200))))) (.exit 2)) (.br (te (.v 1013) (.c 0)) (.leaf [(.c 1)]) (.br (te (.v 1013) (.c 1)) (.leaf [(.c 0)]) (.new 1015 (.ite Q30 Q23 (.c 0)) (.new 1016 (.ite Q34 Q24 (.c 0)) (.new 1017 (.ite (te (.cl 1015 0 1000000) (.cl 1016 0 1000000)) (.f 149 (.f 151 (.v 1001) Q5 Q28) (.f 151 (.v 1005) Q9 Q32) (.cl
 1015 0 1000000)) (.c 0)) (.br (.cl 1017 0 1) (.br (.f 20 (.ite Q30 Q35 (tR (tR (.v 1003) Q29) (.c 0))) (.ite Q34 Q35 (tR (tR (.v 1007) Q33) (.c 0))) (.c 0)) (.br (te (.ite Q30 (.c 0) (.c 10)) (.ite Q34 (.c 0) (.c 10))) (.br (te (.ite Q37 (t6 (tR (tR (.v 1001) Q36) (.c 1))) (.c 0)) (.ite Q39 (t6 (tR (tR (.v 1005) Q38) (.c 1))) (.c 0))) (.br (te (.nt Q37) (.nt Q39)) (.new 1018 (.ite (te Q5 Q9) (.f 145 (.f 152 (.v 1001) Q5 (.c 0)) (.f 152 (.v 1005) Q9 (.c 0)) Q5) (.c 0)) (.br (.cl 1018 0 1) (.leaf [(.c 1)]) (.leaf [(.c 0)]))) (.leaf [(.c 0)])) (.leaf [(.c 0)])) (.leaf [(.c 0)])) (.leaf [(.c 0)])) (.leaf [(.c 0)]))))))))))

noncomputable def sq0 (y1 y2 y3 y4 y5 y6 y7 y8 : Int) : Int := (seqZ (iteZ (Pl (lckZ y1 y2 (kZ y3 (kZ y4 0))) 0) (kZ 0 (kZ 0 0)) (rdZ (rdZ y3 (lckZ y1 y2 (kZ y3 (kZ y4 0)))) 0)) (iteZ (Pl (lckZ y5 y6 (kZ y7 (kZ y8 0))) 0) (kZ 0 (kZ 0 0)) (rdZ (rdZ y7 (lckZ y5 y6 (kZ y7 (kZ y8 0)))) 0)))
def sq1 (y1 y2 y3 y4 y5 y6 y7 y8 c : Int) : Prop := (Pn (iteZ (Pl (lckZ y1 y2 (kZ y3 (kZ y4 0))) 0) y4 0) 0 1000000 fun y15 => Pn (iteZ (Pl (lckZ y5 y6 (kZ y7 (kZ y8 0))) 0) y8 0) 0 1000000 fun y16 => Pn (iteZ (Pe y15 y16) (smfZ (fixZ y1 y2 (kZ y3 (kZ y4 0))) (fixZ y5 y6 (kZ y7 (kZ y8 0))) y15) 0) 0 1 fun y17 => (Pb y17 (Pb (sq0 y1 y2 y3 y4 y5 y6 y7 y8) (Pb (Pe (iteZ (Pl (lckZ y1 y2 (kZ y3 (kZ y4 0))) 0) 0 10) (iteZ (Pl (lckZ y5 y6 (kZ y7 (kZ y8 0))) 0) 0 10)) (Pb (Pe (iteZ (PL 0 (mfsZ y1 y2 c)) (W6 (rdZ (rdZ y1 (mfsZ y1 y2 c)) 1)) 0) (iteZ (PL 0 (mfsZ y5 y6 c)) (W6 (rdZ (rdZ y5 (mfsZ y5 y6 c)) 1)) 0)) (Pb (Pe (Pe (PL 0 (mfsZ y1 y2 c)) 0) (Pe (PL 0 (mfsZ y5 y6 c)) 0)) (Pn (iteZ (Pe y2 y6) (samT (nmsZ y1 y2) (nmsZ y5 y6) y2) 0) 0 1 fun y18 => (Pb y18 Pt Pf)) Pf) Pf) Pf) Pf) Pf))
def P (a b c d : Int) : Prop :=
 (Pb (Pl 100 a) Pt (Pb (Pl 100 (qQf c)) Pt (∃ I1000 : Int → Int → Int → Int → Int → Int → Int → Int → Int → Nat → Prop, (∃ m, I1000 0 0 0 0 0 0 0 0 0 m) ∧ ∀ y0 y1 y2 y3 y4 y5 y6 y7 y8 : Int, ∀ m0, ((0 ≤ y0 ∧ y0 ≤ 4611686018427387904) ∧ True ∧ (0 ≤ y2 ∧ y2 ≤ 1000000) ∧ True ∧ (0 ≤ y4 ∧ y4 ≤ 1000000) ∧ True ∧ (0 ≤ y6 ∧ y6 ≤ 1000000) ∧ True ∧ (0 ≤ y8 ∧ y8 ≤ 1000000) ∧ True) → I1000 y0 y1 y2 y3 y4 y5 y6 y7 y8 m0 → (Pb (Pl y0 a) (Pb (Pl 100 (qQf (rdZ (rdZ b y0) 1))) (Pb (Pe (0 : Int) 0) Pt (Pb (Pe (0 : Int) 1) Pf (sq1 y1 y2 y3 y4 y5 y6 y7 y8 c))) (Pb (rdZ (rdZ b y0) 0) (Pn (W6 (rdZ (rdZ b y0) 2)) (-9223372036854775808) 9223372036854775807 fun y10 => (Pm (PL y2 999999) (Pn (iteZ (isZ (rdZ (rdZ b y0) 1)) (iteZ (PL 0 (mfsZ y1 y2 (rdZ (rdZ b y0) 1))) 9 0) 8) 0 9 fun y11 => (Pm (PL y6 999999)
 (Pn (iteZ (isZ (rdZ (rdZ b y0) 1)) (iteZ (PL 0 (mfsZ y5 y6 (rdZ (rdZ b y0) 1))) 9 0) 8) 0 9 fun y12 => (Pb (Pd y11 y12) (Pb (Pe (1 : Int) 0) Pt (Pb (Pe (1 : Int) 1) Pf (sq1 y1 y2 y3 y4 y5 y6 y7 y8 c))) (Pm (PL (y0 + 1) 4611686018427387904) (Pm (PL (y2 + (iteZ (isZ (rdZ (rdZ b y0) 1)) (iteZ (PL 0 (mfsZ y1 y2 (rdZ (rdZ b y0) 1))) 0 1) 0)) 1000000) (Pm (PL (y6 + (iteZ (isZ (rdZ (rdZ b y0) 1)) (iteZ (PL 0 (mfsZ y5 y6 (rdZ (rdZ b y0) 1))) 0 1) 0)) 1000000) (∃ m', m' < m0 ∧ I1000 (y0 + 1) (iteZ (iteZ (isZ (rdZ (rdZ b y0) 1)) (iteZ (PL 0 (mfsZ y1 y2 (rdZ (rdZ b y0) 1))) 0 1) 0) (updZ y1 y2 (kZ (rdZ (rdZ b y0) 1) (kZ y10 0))) y1) (y2 + (iteZ (isZ (rdZ (rdZ b y0) 1)) (iteZ (PL 0 (mfsZ y1 y2 (rdZ (rdZ b y0) 1))) 0 1) 0)) y3 y4 (iteZ (iteZ (isZ (rdZ (rdZ b y0) 1)) (iteZ (PL 0 (mfsZ y5 y6 (rdZ (rdZ
 b y0) 1))) 0 1) 0) (updZ y5 y6 (kZ (rdZ (rdZ b y0) 1) (kZ y10 0))) y5) (y6 + (iteZ (isZ (rdZ (rdZ b y0) 1)) (iteZ (PL 0 (mfsZ y5 y6 (rdZ (rdZ b y0) 1))) 0 1) 0)) y7 y8 m')))))))))) (Pn (W6 (rdZ (rdZ b y0) 2)) (-9223372036854775808) 9223372036854775807 fun y10 => (Pm (PL y4 999999) (Pn (iteZ (isZ (rdZ (rdZ b y0) 1)) 0 8) 0 8 fun y11 => (Pm (PL y8 999999) (Pm (PL (y0 + 1) 4611686018427387904) (Pm (PL (y4 + (isZ (rdZ (rdZ b y0) 1))) 1000000) (Pm (PL (y8 + (isZ (rdZ (rdZ b y0) 1))) 1000000) (∃ m', m' < m0 ∧ I1000 (y0 + 1) y1 y2 (iteZ (isZ (rdZ (rdZ b y0) 1)) (updZ y3 y4 (kZ (rdZ (rdZ b y0) 1) (kZ y10 0))) y3) (y4 + (isZ (rdZ (rdZ b y0) 1))) y5 y6 (iteZ (isZ (rdZ (rdZ b y0) 1)) (updZ y7 y8 (kZ (rdZ (rdZ b y0) 1) (kZ y10 0))) y7) (y8 + (isZ (rdZ (rdZ b y0) 1))) m')))))))))) (Pb (Pe (2 : Int)
 0) Pt (Pb (Pe (2 : Int) 1) Pf (sq1 y1 y2 y3 y4 y5 y6 y7 y8 c)))))))

theorem l01 (a b : Prop) [Decidable a] [Decidable b] : 0 ≤ (if a then if b then (0 : Int) else 1 else 0) ∧ (if a then if b then (0 : Int) else 1 else 0) ≤ 1 := by
  by_cases ha : a <;> by_cases hb : b <;> simp [ha, hb]
set_option maxHeartbeats 4000000 in
theorem holds (n0 c0 s1 r0 : Int) (l_n0 : 0 ≤ n0) (u_n0 : n0 ≤ 140737488355328) (h_n0 : n0 ≤ r0) : P n0 c0 s1 r0 := by
  delta P sq0 sq1 Pb Pm Pn Pf Pt PL Pl Pe Pd W6 kZ
  simp only [nrm, Int.reduceEq, Int.reduceNeg, reduceIte]
  refine ⟨fun _ => trivial, fun hn => ⟨fun _ => trivial, fun hs => ?_⟩⟩
  refine ⟨fun i q n uq u q' n' uq' u' m => q' = q ∧ n' = n ∧ uq' = uq ∧ u' = u ∧ 0 ≤ i ∧ i ≤ n0 ∧ n ≤ i ∧ u ≤ i ∧ m = (n0 - i).toNat, ⟨_, rfl, rfl, rfl, rfl, by omega, by omega, by omega, by omega, rfl⟩, ?_⟩
  rintro i q n uq u q' n' uq' u' m hb ⟨rfl, rfl, rfl, rfl, i0, i1, i2, i3, rfl⟩
  refine ⟨fun hi => ⟨fun _ => trivial, fun _ => ⟨fun _ => ?_, fun _ => ?_⟩⟩, fun hi => ?_⟩
  · intro y10 hy10 _
    refine ⟨fun _ => ?_, fun h => by omega⟩
    intro y11 hy11 _
    refine ⟨fun _ => ?_, fun h => by omega⟩
    intro y12 hy12 _
    refine ⟨fun h => h (hy11.trans hy12.symm), fun _ => ?_⟩
    obtain ⟨g1, g2⟩ := l01 (¬isZ (rdZ (rdZ c0 i) 1) = 0) (0 ≤ mfsZ q' n' (rdZ (rdZ c0 i) 1))
    refine ⟨fun _ => ⟨fun _ => ⟨fun _ => ⟨(n0 - (i + 1)).toNat, by omega, rfl, rfl, rfl, rfl, by omega, by omega, by omega, by omega, rfl⟩, fun h => by omega⟩, fun h => by omega⟩, fun h => by omega⟩
  · intro y10 hy10 _
    refine ⟨fun _ => ?_, fun h => by omega⟩
    intro y11 hy11 _
    have g1 := isZ_bd (rdZ (rdZ c0 i) 1)
    refine ⟨fun _ => ?_, fun h => by omega⟩
    exact ⟨fun _ => ⟨fun _ => ⟨fun _ => ⟨(n0 - (i + 1)).toNat, by omega, rfl, rfl, rfl, rfl, by omega, by omega, by omega, by omega, rfl⟩, fun h => by omega⟩, fun h => by omega⟩, fun h => by omega⟩
  · simp [smf_self, sam_self, seq_self]

theorem plain (i v ro p) : statR 2 rc tree ⟨i, fN, v, ro, p⟩ = P (i 0) (i 1) (i 2) (i 3) := by kernel_rfl
theorem ran : ranR us (fun _ _ => .auto) rc 2 tree = true := by kernel_rfl
theorem fineT : fineR 2 rc tree = true := by kernel_rfl
theorem ok : RcOk (cxOf 2) rc := okR us_ok ran fineT okb fun i v ro p hρ hcap hpre => by rw [plain]; have q := hρ.hi; exact holds _ _ _ _ (q 0 _ rfl).1 (q 0 _ rfl).2 (hcap _ (mg 0 rfl))
theorem laidMet_tail {P : Program} {x : String × DataW Unit} {rest : List (String × DataW Unit)} {W : World} (h : laidMet P (x :: rest) W) : laidMet P rest W := by
  obtain ⟨ps, hl, hn, hf⟩ := h
  obtain ⟨n, d⟩ := x
  obtain ⟨g, t, cs, fuel, p, q, _, _, _, _, hq, rfl⟩ := hl
  exact ⟨q, hq, (List.nodup_append.1 hn).2.1, fun b off hm => hf b off (List.mem_append_right _ hm)⟩
theorem listE_LZ (P : Program) (l : List Int) (ro : List RO) : ∀ zs : List Int, (qZq (zs.map E.c)).ev (envR P l ro) = LZ zs
  | [] => rfl
  | z :: zs => by
    have h : (qZq ((z :: zs).map E.c)).ev (envR P l ro) = qQj z ((qZq (zs.map E.c)).ev (envR P l ro)) := rfl
    rw [h, listE_LZ P l ro zs]
    unfold qQj
    rw [ZL_LZ]
noncomputable def plainL : List (String × DataW Unit) := [("unicode/utf8.acceptRanges", Rows.laid_unicode_utf8_acceptRanges), ("unicode/utf8.first", Rows.laid_unicode_utf8_first)]
theorem laidP {W : World} (h : laidMetH Tryd.prog Rows.labelPlaysRow.laid W) : laidMet Tryd.prog plainL W ∧ handlesMet Tryd.prog [("errors.errorType", Rows.laid_errors_errorType)] W := h
theorem wrap_shaped {H : Type} {enc : TypeId × Value → H} {a : Assume} {C : Checked} {os : Os} {f : FuncId} {fn : Func} {s : ChangeSpec} {conds : List PathCond} {apart fresh handsOn again : Bool} {X : World → Array Value → Prop}
    (hX : ∀ (w w' : World) (args : Array Value), w.heap = w'.heap → X w args → X w' args)
    (own : ownKnob C.prog.godebug = none) (started : os.Started) (noInit : C.prog.inits.idxOf? f = none) (hfn : C.prog.funcs[f]? = some fn)
    (witness : ∃ (w : World) (tape : Tape) (i : Input), w.os = os ∧ (w.forCall tape i).Shaped C.prog ∧ i.vars = [] ∧ Input.okWide C.prog (w.forCall tape i) .any w.heap.size f i ∧
      ((s.pre enc C.prog fn conds apart (w.forCall tape i).memory i.args ∧ X (w.forCall tape i).memory i.args) ∧ sizedMet enc C.prog fn (OpenSpec.ofChange s) apart (w.forCall tape i).memory i.args) ∧ a.holds C.prog (lone (Frame.enter C.prog f i.args .normal) [] (w.forCall tape i)))
    (contract : ∀ (W : World) (base : Nat) (args : Array Value) (ds gs : List (DataW H)) (before : List MemPlace),
      (∀ (j : Nat) t v, fn.params[j]? = some t → args[j]? = some v → Value.okWide C.prog W .any base t v) →
      DataW.Whole enc C.prog fn.params.toList s.vars apart W args.toList ds gs before →
      conds.all (PathCond.test C.prog ⟨fn.params.toList, ds, s.plain.varTypes C.prog, gs⟩) = true →
      (DataW.weightsEach C.prog (fn.params.toList ++ s.plain.varTypes C.prog) (ds ++ gs)).all (· ≤ reachBytes) = true → X W args → W.ShapedOpen C.prog →
      a.holds C.prog (lone (Frame.enter C.prog f args .normal) [] W) →
      Calls C.prog f args W fun e W' => ∃ v, e = .returned v ∧ s.post enc C.prog fn apart fresh handsOn again W args v W') :
    ReturnsInHanded a C os f .any (fun w args => (s.pre enc C.prog fn conds apart w args ∧ X w args) ∧ sizedMet enc C.prog fn (OpenSpec.ofChange s) apart w args) (s.post enc C.prog fn apart fresh handsOn again) := by
  refine returnsInHanded_of_calls own started noInit witness ?_
  intro w tape i _ hsh _ hok hpre hholds
  obtain ⟨_, _, _, fn', hfn', _, _, _, _, hval⟩ := hok
  obtain rfl : fn' = fn := Option.some.inj (hfn'.symm.trans hfn)
  obtain ⟨⟨⟨ds, gs, before, hw, hc⟩, hx⟩, hz⟩ := hpre
  refine (contract (w.forCall tape i) w.heap.size i.args ds gs before hval (DataW.Whole.of_heap (w' := w.forCall tape i) (by rfl) hw) hc (hz.weights hw) (hX _ _ _ (by rfl) hx) hsh hholds).mono fun e W' ⟨v, he, hp⟩ => ?_
  subst he
  exact ChangeSpec.post_blind hp
theorem var0 {W : World} (h : W.ShapedOpen Tryd.prog) : ∃ m, W.cell? ⟨1, 0, none⟩ = some (.int .i64 m) :=
  cell_of_shapedOpen_int (P := Tryd.prog) (g := 1) (t := 3) (zero := #[.int .i64 0]) h (of_decide_eq_true (by kernel_rfl)) (by kernel_rfl) rfl (by kernel_rfl) (by kernel_rfl) Tryd.underlying3
theorem gnm1 : Tryd.prog.globalNamed "errors.errorType" = some 0 := by kernel_rfl
theorem hrt1 : (Tryd.prog.cutTypes.find? (·.1 == "internal/reflectlite.rtype")).map (·.2) = some 92 := by kernel_rfl
theorem hone1 : ((List.range 168).filter fun t => Tryd.prog.rowNamed t [101, 114, 114, 111, 114]) = [57] := by kernel_rfl
theorem hsz1 : Tryd.prog.types.size = 168 := by kernel_rfl
theorem var1 {W : World} (h : laidMetH Tryd.prog Rows.labelPlaysRow.laid W) : W.cell? ⟨0, 0, none⟩ = some (hndV 1004092057) := by
  have h2 := (laidP h).2
  obtain ⟨nm, u, ty, e1, e2, e3, e4, e5⟩ := h2 _ (List.mem_singleton.2 rfl)
  have en : nm = [101, 114, 114, 111, 114] := (Option.some.inj e1).symm
  subst en
  obtain rfl := Option.some.inj (hrt1.symm.trans e2)
  have hm : ty ∈ (List.range 168).filter fun t => Tryd.prog.rowNamed t [101, 114, 114, 111, 114] := List.mem_filter.2 ⟨List.mem_range.2 (by rw [← hsz1]; exact e3), e4⟩
  rw [hone1] at hm
  obtain rfl := List.mem_singleton.1 hm
  have hh : typeHandle Tryd.prog 57 = .pointer (some ⟨4, 57, none⟩) := by kernel_rfl
  rw [hh] at e5
  have hv : hndV 1004092057 = .iface 92 (.agg #[.pointer (some ⟨4, 57, none⟩)]) := rfl
  rw [hv]
  simpa using World.var?_cell gnm1 e5 0
/-- a world that meets the condition -/
noncomputable def lw (os : Os) : World :=
  let w0 := World.holding Tryd.prog os ⟨#[], #[], []⟩
  World.layVars Tryd.prog { w0 with heap := w0.heap.modify 0 fun
      | .cells _ t frozen => .cells #[.iface 92 (.agg #[.pointer (some ⟨4, 57, none⟩)])] t frozen
      | o => o } plainL
theorem lw_os (os : Os) : (lw os).os = os := World.layVars_os _ _ _
theorem lw_met (os : Os) (args : Array Value) : laidMetH Tryd.prog Rows.labelPlaysRow.laid ((lw os).forCall (fun _ _ => 0) ⟨#[], args, []⟩).memory := by
  refine laidMetH_of_parts ?_ (by kernel_rfl)
  have e1 : (plainL.filter fun x => (plainL.map (·.1)).contains x.1) = plainL := List.filter_eq_self.2 fun x hx => List.contains_iff_mem.2 (List.mem_map.2 ⟨x, hx, rfl⟩)
  have e2 : (plainL.filter fun x => !(plainL.map (·.1)).contains x.1) = [] := List.filter_eq_nil_iff.2 fun x hx => by rw [List.contains_iff_mem.2 (List.mem_map.2 ⟨x, hx, rfl⟩)]; simp
  have h : laidMet Tryd.prog plainL (lw os) := laidMet_layVars (w0 := _) (plainL.map (·.1)) [] (by rw [e1]; rfl) (by rw [e1]; kernel_rfl) (by rw [e1]; kernel_rfl) (by rw [e2]; exact LaidIn.none)
  exact h.of_heap (by simp [World.memory, World.forCall, Input.heap])

theorem walk (w : World) (a0 : RO) (k0 : a0.cks = [.bool, .str, .int .i64]) (n0 : a0.a = none → a0.n = 0) (m0 : a0.n ≤ a0.cap) (t0 : RoAt w a0) (b0 : (a0.n : Int) ≤ 140737488355328) (a1 : Int) (mv0 : Int) (hv0 : w.cell? ⟨1, 0, none⟩ = some (.int .i64 mv0)) (hv1 : w.cell? ⟨0, 0, none⟩ = some (hndV 1004092057)) :
    Calls Tryd.prog 3 #[.slice a0.a a0.n a0.cap, .string (qQk a1)] w fun e w' => e = .returned (.bool true) ∧ Below w.heap.size w w' := by
  refine law_of (cx := cxOf 2) ok ⟨rfl, rfl, rfl⟩ (ρ := envR Tryd.prog [(a0.n : Int), a0.c, a1, (a0.cap : Int)] [a0, ⟨some ⟨1, 0, none⟩, 1, [], 0, 1, some (.int .i64 mv0)⟩, ⟨some ⟨0, 0, none⟩, 1004092057, [], 0, 1004092057, some (hndV 1004092057)⟩]) (envR_ok (cx := rc.cx (cxOf 2)) rfl rfl (bnd_cons ⟨Int.natCast_nonneg _, b0⟩ (bnd_nil _)) ⟨⟨k0, rfl, (Int.toNat_natCast _).symm, (Int.toNat_natCast _).symm, n0, fun g h => by cases h⟩, ⟨⟨rfl, rfl, rfl, rfl, (fun h => by cases h), fun g h => by cases h; exact ⟨rfl, ⟨mv0, rfl⟩⟩⟩, ⟨⟨rfl, rfl, rfl, rfl, (fun h => by cases h), fun g h => by cases h; exact ⟨rfl, ⟨by decide, rfl⟩⟩⟩, trivial⟩⟩⟩) (fun d hd => by
    simp only [show qXm rc.b rc.c rc.ls 0 0 0 = [⟨[.bool, .str, .int .i64], .v 1, .v 0, .v 3, none⟩] from rfl, List.mem_cons, List.not_mem_nil, or_false] at hd
    rcases hd with rfl
    · exact Int.ofNat_le.2 m0) (roOk_of ⟨t0, ⟨varRo_at hv0, ⟨varRo_at hv1, trivial⟩⟩⟩) ?_
  rw [show rc.args = [.sl (.inp 0) 3 (.c 0) (.v 0) (some (.v 3)), .str (.v 2)] from rfl]
  simp only [SV.denL, SV.den, E.ev, map_addr_zero]
  rfl
theorem lifted (os : Os) (started : os.Started) (H : Type) (enc : TypeId × Value → H) :
    ReturnsInHanded {} Tryd.checked os 3 .any (fun w args => (Rows.labelPlaysSpec.pre enc Tryd.prog Tryd.f3 Rows.labelPlaysRow.domain false w args ∧ laidMetH Tryd.prog Rows.labelPlaysRow.laid w) ∧ sizedMet enc Tryd.prog Tryd.f3 (OpenSpec.ofChange Rows.labelPlaysSpec) false w args)
      (Rows.labelPlaysSpec.post enc Tryd.prog Tryd.f3 false true false false) := by
  refine wrap_shaped (C := Tryd.checked) (X := fun w _ => laidMetH Tryd.prog Rows.labelPlaysRow.laid w) (fun _ _ _ hh h => h.of_heap hh) own started (by kernel_rfl) Tryd.func3
    (ChangeSpec.witness_shaped (enc := enc) (C := Tryd.checked) (os := os) (X := fun w _ => laidMetH Tryd.prog Rows.labelPlaysRow.laid w) false (lw os) #[.slice none 0 0, .string ⟨#[]⟩] 8 (lw_os _)
      (World.shaped_of_ZipB (by kernel_rfl) (by kernel_rfl)) (by kernel_rfl) (by kernel_rfl) (by kernel_rfl)
      (lw_met _ _)) ?_
  intro W base args ds gs before hval0 hW hcnd hw0 hL hsh _
  have hval : ∀ (j : Nat) t v, Tryd.f3.params[j]? = some t → args[j]? = some v → Value.okWide Tryd.prog W .any base t v := hval0
  have hW' := hW
  obtain ⟨p, q, hA0, hV, rfl, hfz, hnd⟩ := hW
  have hA : DataW.TrodAll enc Tryd.prog W 0 (fun _ => true) true Tryd.f3.params.toList args.toList ds p := hA0
  have hw := hw0
  rw [Tryd.params3] at hA hval hw
  obtain ⟨v0, vs0, d0, ds0, p0, q0, hargs, rfl, rfl, h0, r0⟩ := trodAll_cons hA
  have h0k := h0
  obtain ⟨v1, vs1, d1, ds1, p1, q1, rfl, rfl, rfl, h1, r1⟩ := trodAll_cons r0
  have h1k := h1
  obtain ⟨rfl, rfl, rfl⟩ := trodAll_nil r1
  obtain rfl : args = #[v0, v1] := by cases args; simp_all
  obtain ⟨rfl, rfl⟩ := trodVars_none hV
  obtain ⟨a0, k0, rfl, n0, m0, t0, b0, _⟩ := Go.Eng.open_row (ks := [.bool, .str, .int .i64]) Tryd.underlying22 (ElT.struct Tryd.underlying31 (by kernel_rfl) (by kernel_rfl) (by first | exact ⟨by simp only [CkT]; kernel_rfl, by simp only [CkT]; kernel_rfl, by simp only [CkT]; kernel_rfl, trivial⟩) (by decide)) (by decide) (of_decide_eq_true (by kernel_rfl)) (by kernel_rfl) (hval 0 22 v0 rfl rfl) h0 (weights_of (gs := []) hw (j := 0) (t := 22) rfl rfl)
  obtain ⟨a1, rfl⟩ := Go.Eng.open_str Tryd.underlying9 (hval 1 9 v1 rfl rfl) h1 (weights_of (gs := []) hw (j := 1) (t := 9) rfl rfl)
  obtain ⟨mv0, hv0⟩ := var0 hsh
  have hv1 := var1 hL
  clear hA0 hval0
  refine (walk W a0 k0 n0 m0 t0 b0 a1 mv0 hv0 hv1).mono fun e W' ⟨he, hg⟩ => ?_
  subst he
  have hin0 : ∀ x ∈ p0, x ∈ p0 ++ (p1 ++ []) ++ [] := fun x hx => by simp [hx]
  have hlt0 : ∀ x ∈ p0, x.block < W.heap.size := fun x hx => by simpa using hW'.lt x (by simp [hx])
  have hin1 : ∀ x ∈ p1, x ∈ p0 ++ (p1 ++ []) ++ [] := fun x hx => by simp [hx]
  have hlt1 : ∀ x ∈ p1, x.block < W.heap.size := fun x hx => by simpa using hW'.lt x (by simp [hx])
  exact ⟨_, rfl, post_below (pa := _) (pv := []) hW' hg (fun _ _ _ => (trodAll_cons_mk (shut_bool Tryd.underlying4 _) trodAll_mk0)) (fun sp hsp => (trodAll_cons_mk (WideElems.Trod_stays laidOut (by kernel_rfl) (of_decide_eq_true (by kernel_rfl)) h0k (fun x hx => hg.same (hlt0 x hx)) (fun x hx => hsp x (hin0 x hx))) (trodAll_cons_mk (WideElems.Trod_stays laidOut (by kernel_rfl) (of_decide_eq_true (by kernel_rfl)) h1k (fun x hx => hg.same (hlt1 x hx)) (fun x hx => hsp x (hin1 x hx))) trodAll_mk0))) (fun _ _ => rfl) (by simp)
    (ok_one (by kernel_rfl) rfl (okWide_bool_mk Tryd.underlying4 _))⟩

theorem over : Rows.labelPlaysRow.holds Tryd.pinned (OpenSpec.ofChange Rows.labelPlaysSpec) :=
  OpenClaim.holds_of_wide 3 Tryd.f3 rfl rfl rfl rfl rfl rfl rfl ⟨rfl, rfl, rfl, rfl, rfl⟩ rfl rfl rfl rfl rfl (by kernel_rfl) Tryd.func3 (by kernel_rfl)
    (of_decide_eq_true (by kernel_rfl)) (by unfold Func.isWrapper; first | (rw [if_pos (by decide +kernel)]; kernel_rfl) | (rw [if_neg (by decide +kernel)]; exact ⟨rfl, rfl⟩))
    (fun os started H enc _ => lifted os started H enc)

/-- the statement -/
theorem proved : Rows.LabelPlaysCardSaid :=
  Claim7.holds_tied_plain_at .later [] [.data, .handle, .pinned] true (true, "5e37e8e8f699191921c48ff1cdb5f2bdbb1df219cbbf32338eb517d28c628d4f") true
    over (fun _ h => by cases h) (by kernel_rfl) (fun _ h => by cases h) labelPlays_row_tie rfl ⟨rfl, rfl⟩ (by kernel_rfl) rfl
    (fun f fn hf hfn => by
      obtain rfl : f = 3 := Option.some.inj ((show Tryd.prog.funcNamed "astrolabe/astrolabelaw19.LabelPlays" = some 3 by kernel_rfl).symm.trans hf) |>.symm
      obtain rfl : fn = Tryd.f3 := (Option.some.inj (Tryd.func3.symm.trans hfn)).symm
      exact ⟨by kernel_rfl, fun j t ht => by
        rw [Tryd.params3] at ht
        have h3 : t = 9 ∨ t = 22 := by
          rcases j with _ | _ | j
          · exact (.inr (by simpa using ht.symm))
          · exact (.inl (by simpa using ht.symm))
          · simp at ht
        rcases h3 with rfl | rfl
        · exact (show Tryd.prog.wantsStandIn 9 = false by kernel_rfl)
        · exact (show Tryd.prog.wantsStandIn 22 = false by kernel_rfl)⟩)
    (by kernel_rfl)
#print axioms proved
end Go.Proofs.YtmehpgejkoaigaaDoor.labelPlays
