/-
  The law LineTells answers true at every input: the law is run by the engine (a symbolic run, proved sound), the tree of its answers, as a plain statement, is shown to hold. No condition.
-/
import Derived.Test.YtppiabilakeadaaGreatDoorKa
import Derived.Test.YtppiabilakeadaaGreatDoorKd
import Derived.Test.YtppiabilakeadaaGreatDoorKe
import Derived.Test.YtppiabilakeadaaGreatDoorKg
import Derived.Test.YtppiabilakeadaaGreatDoorKh
import Derived.Test.YtppiabilakeadaaGreatDoorKj
import Derived.Test.YtppiabilakeadaaGreatDoorGab
import Derived.Test.YtppiabilakeadaaGreatDoorGp4
import Derived.WalkKit
import Derived.ProofKit
import Derived.OpenShut
import Derived.LaidMore
import Derived.Stop.Joined
import Derived.SevenTiedAt
import Derived.SizedLaws
import Derived.Lay
import Derived.Test.YtppiabilakeadaaGreatDoorCards
import Derived.Test.YtppiabilakeadaaGreatDoorTie
import Derived.Shelf.Vars
import Derived.Stop.LaidErr
import Derived.LaidLaws
import Derived.Handed
namespace Go.Proofs.YtppiabilakeadaaGreatDoor.lineTells
open Go.ChangeShapes Go.WideShapes Go.ChangeAt Go.Eng Go.RowKit
set_option linter.unusedVariables false
set_option linter.unusedSimpArgs false
set_option maxRecDepth 100000
def rc : Rc := ⟨3, [some 5, none], [.int .i64, .int .i64, .int .i64, .int .i64, .int .i64, .str], [], .one, [.bool (.c 1)]⟩
theorem okb : rc.ok = true := by kernel_rfl
noncomputable def us : SMs := fun Γ ins n => smH (cxG n Γ ins) [CLParse.rk.rh, CRParse14.rk.rh] (smR (cxG n Γ ins) [CAwake14.rc, CLText.rc, CRText14.rc, CLNumber.rc, CRNumber14.rc, CLWords.rc, CRWords14.rc, CRTexts14.rc])
theorem us_ok : SMsOk us := fun Γ ins n => qZb (tabsG n Γ ins) (rhs_cons CLParse.okh (rh_n CLParse.ok) (rhs_cons CRParse14.okh (rh_n CRParse14.ok) (qQs _))) (qZw (tabsG n Γ ins) (qQw CAwake14.okb (rc_n CAwake14.ok) (qQw CLText.okb (rc_n CLText.ok) (qQw CRText14.okb (rc_n CRText14.ok) (qQw CLNumber.okb (rc_n CLNumber.ok) (qQw CRNumber14.okb (rc_n CRNumber14.ok) (qQw CLWords.okb (rc_n CLWords.ok) (qQw CRWords14.okb (rc_n CRWords14.ok) (qQw CRTexts14.okb (rc_n CRTexts14.ok) (qQt _))))))))))
def tree : TT (List E) :=
(.br (.b .lt .i64 (.c 300) (.f 21 (.v 5) (.c 0) (.c 0)))
  (.leaf [(.c 1)])
  (.new 1000 (.f 141 (.v 0) (.v 1) (.f 11 (.v 2) (.f 11 (.v 3) (.f 11 (.v 4) (.c 0) (.c 0)) (.c 0)) (.c 0)))
  (.br (.b .le .i64 (.f 21 (.v 5) (.c 0) (.c 0)) (.c 100000))
  (.br (.b .le .i64 (.f 136 (.v 5) (.c 0) (.c 0)) (.c 1000000))
  (.br (.f 145 (.f 137 (.v 5) (.c 0) (.c 0)) (.f 137 (.v 5) (.c 0) (.c 0)) (.f 136 (.v 5) (.c 0) (.c 0)))
  (.leaf [(.c 1)])
  (.leaf [(.c 0)]))
  (.bad 200))
  (.bad 200))))

def P (p0_0 p0_1 p0_2 p0_3 p0_4 s1 : Int) : Prop :=
 (((qQx (decide (300 < (qQz s1)))) ≠ 0 →
  ((1 : Int) ≠ 0 ↔ (1 : Int) ≠ 0) ∧ True) ∧ ((qQx (decide (300 < (qQz s1)))) = 0 →
  ∀ y1000 : Int, y1000 = (cckZ p0_0 p0_1 (qQq p0_2 (qQq p0_3 (qQq p0_4 0)))) → (0 ≤ y1000 ∧ y1000 ≤ 6) →
  (((qQx (decide ((qQz s1) ≤ 100000))) ≠ 0 →
   (((qQx (decide ((wrdN s1) ≤ 1000000))) ≠ 0 →
    (((samT (wrdC s1) (wrdC s1) (wrdN s1)) ≠ 0 →
     ((1 : Int) ≠ 0 ↔ (1 : Int) ≠ 0) ∧ True) ∧ ((samT (wrdC s1) (wrdC s1) (wrdN s1)) = 0 →
     ((0 : Int) ≠ 0 ↔ (1 : Int) ≠ 0) ∧ True))) ∧ ((qQx (decide ((wrdN s1) ≤ 1000000))) = 0 →
    False))) ∧ ((qQx (decide ((qQz s1) ≤ 100000))) = 0 →
   False))))

theorem holds (p0_0 p0_1 p0_2 p0_3 p0_4 s1 : Int) (l_p0_0 : -9223372036854775808 ≤ p0_0) (u_p0_0 : p0_0 ≤ 9223372036854775807) (l_p0_1 : -9223372036854775808 ≤ p0_1) (u_p0_1 : p0_1 ≤ 9223372036854775807) (l_p0_2 : -9223372036854775808 ≤ p0_2) (u_p0_2 : p0_2 ≤ 9223372036854775807) (l_p0_3 : -9223372036854775808 ≤ p0_3) (u_p0_3 : p0_3 ≤ 9223372036854775807) (l_p0_4 : -9223372036854775808 ≤ p0_4) (u_p0_4 : p0_4 ≤ 9223372036854775807) : P p0_0 p0_1 p0_2 p0_3 p0_4 s1 := by
  unfold P
  have hw : wrdN s1 ≤ qQz s1 := by
    have h := wgo_len (bytL s1) []
    have := qZu s1
    unfold wrdN wrdL
    simp only [List.length_nil] at h
    omega
  have hs : samT (wrdC s1) (wrdC s1) (wrdN s1) = 1 := by unfold samT; rw [if_pos fun i _ => rfl]
  simp only [nrm, Int.reduceEq, Int.reduceNeg, reduceIte, hs]
  refine ⟨fun _ => trivial, fun h => ?_⟩
  intro _ _ _
  refine ⟨fun _ => ⟨fun _ => ?_, fun h => ?_⟩, fun h => ?_⟩
  · first | trivial | decide | (refine ⟨fun _ => ?_, fun h => ?_⟩ <;> first | trivial | decide | omega)
  · omega
  · omega

theorem plain (i v ro p) : statR 2 rc tree ⟨i, fN, v, ro, p⟩ = P (i 0) (i 1) (i 2) (i 3) (i 4) (i 5) := by kernel_rfl
theorem ran : ranR us (fun _ _ => .auto) rc 2 tree = true := by kernel_rfl
theorem fineT : fineR 2 rc tree = true := by kernel_rfl
theorem ok : RcOk (cxOf 2) rc := okR us_ok ran fineT okb fun i v ro p hρ hcap hpre => by rw [plain]; have q := hρ.hi; exact holds _ _ _ _ _ _ (q 0 _ rfl).1 (q 0 _ rfl).2 (q 1 _ rfl).1 (q 1 _ rfl).2 (q 2 _ rfl).1 (q 2 _ rfl).2 (q 3 _ rfl).1 (q 3 _ rfl).2 (q 4 _ rfl).1 (q 4 _ rfl).2
theorem laidMet_tail {P : Program} {x : String × DataW Unit} {rest : List (String × DataW Unit)} {W : World} (h : laidMet P (x :: rest) W) : laidMet P rest W := by
  obtain ⟨ps, hl, hn, hf⟩ := h
  obtain ⟨n, d⟩ := x
  obtain ⟨g, t, cs, fuel, p, q, _, _, _, _, hq, rfl⟩ := hl
  exact ⟨q, hq, (List.nodup_append.1 hn).2.1, fun b off hm => hf b off (List.mem_append_right _ hm)⟩
theorem listE_LZ (P : Program) (l : List Int) (ro : List RO) : ∀ zs : List Int, (qZi (zs.map E.c)).ev (envR P l ro) = LZ zs
  | [] => rfl
  | z :: zs => by
    have h : (qZi ((z :: zs).map E.c)).ev (envR P l ro) = qQq z ((qZi (zs.map E.c)).ev (envR P l ro)) := rfl
    rw [h, listE_LZ P l ro zs]
    unfold qQq
    rw [ZL_LZ]
def tab0 : List Int := [1, 10, 100, 1000, 10000, 100000, 1000000, 10000000, 100000000, 1000000000, 10000000000, 100000000000, 1000000000000, 10000000000000, 100000000000000, 1000000000000000, 10000000000000000, 100000000000000000, 1000000000000000000, 10000000000000000000]
theorem tabG0 : Tryz.prog.globalNamed "internal/strconv.uint64pow10" = some 4 := by kernel_rfl
theorem tabW0 : ∀ z ∈ tab0, IntKind.wrap .u64 z = z := fun z hz => by
  have h := List.all_eq_true.1 (show tab0.all (fun z => decide (IntKind.wrap .u64 z = z)) = true by kernel_rfl) z hz
  simpa using h
theorem tabIs0 {W : World} (h : laidMetH Tryz.prog Rows.lineTellsRow.laid W) : Lib.TabIs Tryz.prog W "internal/strconv.uint64pow10" .u64 tab0 := by
  rw [MakeChecks.laidMetH_plain _ _ _ (by kernel_rfl)] at h
  exact Lib.tabIs_of_head tabG0 (t := 120) (e := 97) (n := 20) (by kernel_rfl) (by kernel_rfl) (by kernel_rfl) (by kernel_rfl) (by kernel_rfl) (laidMet_tail (laidMet_tail h))
def tab1 : List Int := [0, 1, 28, 2, 29, 14, 24, 3, 30, 22, 20, 15, 25, 17, 4, 8, 31, 27, 13, 23, 21, 19, 16, 7, 26, 12, 18, 6, 11, 5, 10, 9]
theorem tabG1 : Tryz.prog.globalNamed "math/bits.deBruijn32tab" = some 8 := by kernel_rfl
theorem tabW1 : ∀ z ∈ tab1, IntKind.wrap .u8 z = z := fun z hz => by
  have h := List.all_eq_true.1 (show tab1.all (fun z => decide (IntKind.wrap .u8 z = z)) = true by kernel_rfl) z hz
  simpa using h
theorem tabIs1 {W : World} (h : laidMetH Tryz.prog Rows.lineTellsRow.laid W) : Lib.TabIs Tryz.prog W "math/bits.deBruijn32tab" .u8 tab1 := by
  rw [MakeChecks.laidMetH_plain _ _ _ (by kernel_rfl)] at h
  exact Lib.tabIs_of_head tabG1 (t := 150) (e := 5) (n := 32) (by kernel_rfl) (by kernel_rfl) (by kernel_rfl) (by kernel_rfl) (by kernel_rfl) h
def tab2 : List Int := [0, 1, 56, 2, 57, 49, 28, 3, 61, 58, 42, 50, 38, 29, 17, 4, 62, 47, 59, 36, 45, 43, 51, 22, 53, 39, 33, 30, 24, 18, 12, 5, 63, 55, 48, 27, 60, 41, 37, 16, 46, 35, 44, 21, 52, 32, 23, 11, 54, 26, 40, 15, 34, 20, 31, 10, 25, 14, 19, 9, 13, 8, 7, 6]
theorem tabG2 : Tryz.prog.globalNamed "math/bits.deBruijn64tab" = some 9 := by kernel_rfl
theorem tabW2 : ∀ z ∈ tab2, IntKind.wrap .u8 z = z := fun z hz => by
  have h := List.all_eq_true.1 (show tab2.all (fun z => decide (IntKind.wrap .u8 z = z)) = true by kernel_rfl) z hz
  simpa using h
theorem tabIs2 {W : World} (h : laidMetH Tryz.prog Rows.lineTellsRow.laid W) : Lib.TabIs Tryz.prog W "math/bits.deBruijn64tab" .u8 tab2 := by
  rw [MakeChecks.laidMetH_plain _ _ _ (by kernel_rfl)] at h
  exact Lib.tabIs_of_head tabG2 (t := 151) (e := 5) (n := 64) (by kernel_rfl) (by kernel_rfl) (by kernel_rfl) (by kernel_rfl) (by kernel_rfl) (laidMet_tail h)
def tab3 : List Int := [0, 0, 0, 0, 0, 0, 0, 0, 0, 1, 1, 1, 1, 1, 0, 0, 0, 0, 0, 0, 0, 0, 0, 0, 0, 0, 0, 0, 0, 0, 0, 0, 1, 0, 0, 0, 0, 0, 0, 0, 0, 0, 0, 0, 0, 0, 0, 0, 0, 0, 0, 0, 0, 0, 0, 0, 0, 0, 0, 0, 0, 0, 0, 0, 0, 0, 0, 0, 0, 0, 0, 0, 0, 0, 0, 0, 0, 0, 0, 0, 0, 0, 0, 0, 0, 0, 0, 0, 0, 0, 0, 0, 0, 0, 0, 0, 0, 0, 0, 0, 0, 0, 0, 0, 0, 0, 0, 0, 0, 0, 0, 0, 0, 0, 0, 0, 0, 0, 0, 0, 0, 0, 0, 0, 0, 0, 0, 0, 0, 0, 0, 0, 0, 0, 0, 0, 0, 0, 0, 0, 0, 0, 0, 0, 0, 0, 0, 0, 0, 0, 0, 0, 0, 0, 0, 0, 0, 0, 0, 0, 0, 0, 0, 0, 0, 0, 0, 0, 0, 0, 0, 0, 0, 0, 0, 0, 0, 0, 0, 0, 0, 0, 0, 0, 0, 0, 0, 0, 0, 0, 0, 0, 0, 0, 0, 0, 0, 0, 0, 0, 0, 0, 0, 0, 0, 0, 0, 0, 0, 0, 0, 0, 0, 0, 0, 0, 0, 0, 0, 0, 0, 0, 0, 0, 0, 0, 0, 0, 0, 0, 0, 0, 0, 0, 0, 0, 0, 0, 0, 0, 0, 0, 0, 0, 0, 0, 0, 0, 0, 0, 0, 0, 0, 0, 0, 0]
theorem tabG3 : Tryz.prog.globalNamed "strings.asciiSpace" = some 0 := by kernel_rfl
theorem tabW3 : ∀ z ∈ tab3, IntKind.wrap .u8 z = z := fun z hz => by
  have h := List.all_eq_true.1 (show tab3.all (fun z => decide (IntKind.wrap .u8 z = z)) = true by kernel_rfl) z hz
  simpa using h
theorem tabIs3 {W : World} (h : laidMetH Tryz.prog Rows.lineTellsRow.laid W) : Lib.TabIs Tryz.prog W "strings.asciiSpace" .u8 tab3 := by
  rw [MakeChecks.laidMetH_plain _ _ _ (by kernel_rfl)] at h
  exact Lib.tabIs_of_head tabG3 (t := 93) (e := 5) (n := 256) (by kernel_rfl) (by kernel_rfl) (by kernel_rfl) (by kernel_rfl) (by kernel_rfl) (laidMet_tail (laidMet_tail (laidMet_tail (laidMet_tail (laidMet_tail (laidMet_tail (laidMet_tail h)))))))
theorem wrap_shaped {H : Type} {enc : TypeId × Value → H} {a : Assume} {C : Checked} {os : Os} {f : FuncId} {fn : Func} {s : ChangeSpec} {conds : List PathCond} {apart fresh handsOn again : Bool} {X : World → Array Value → Prop}
    (hX : ∀ (w w' : World) (args : Array Value), w.heap = w'.heap → X w args → X w' args)
    (own : ownKnob C.prog.godebug = none) (started : os.Started) (noInit : C.prog.inits.idxOf? f = none) (hfn : C.prog.funcs[f]? = some fn)
    (witness : ∃ (w : World) (tape : Tape) (i : Input), w.os = os ∧ (w.forCall tape i).Shaped C.prog ∧ i.vars = [] ∧ Input.okWide C.prog (w.forCall tape i) .any w.heap.size f i ∧
      ((s.pre enc C.prog fn conds apart (w.forCall tape i).memory i.args ∧ X (w.forCall tape i).memory i.args) ∧ sizedMet enc C.prog fn (OpenSpec.ofChange s) apart (w.forCall tape i).memory i.args) ∧ a.holds C.prog (lone (Frame.enter C.prog f i.args .normal) [] (w.forCall tape i)))
    (contract : ∀ (W : World) (base : Nat) (args : Array Value) (ds gs : List (DataW H)) (before : List MemPlace),
      (∀ (j : Nat) t v, fn.params[j]? = some t → args[j]? = some v → Value.okWide C.prog W .any base t v) →
      DataW.Whole enc C.prog fn.params.toList s.vars apart W args.toList ds gs before →
      conds.all (PathCond.test C.prog ⟨fn.params.toList, ds, s.plain.varTypes C.prog, gs⟩) = true →
      (DataW.weightsEach C.prog (fn.params.toList ++ s.plain.varTypes C.prog) (ds ++ gs)).all (· ≤ reachBytes) = true → X W args → W.ShapedOpen C.prog →
      a.holds C.prog (lone (Frame.enter C.prog f args .normal) [] W) →
      Calls C.prog f args W fun e W' => ∃ v, e = .returned v ∧ s.post enc C.prog fn apart fresh handsOn again W args v W') :
    ReturnsInHanded a C os f .any (fun w args => (s.pre enc C.prog fn conds apart w args ∧ X w args) ∧ sizedMet enc C.prog fn (OpenSpec.ofChange s) apart w args) (s.post enc C.prog fn apart fresh handsOn again) := by
  refine returnsInHanded_of_calls own started noInit witness ?_
  intro w tape i _ hsh _ hok hpre hholds
  obtain ⟨_, _, _, fn', hfn', _, _, _, _, hval⟩ := hok
  obtain rfl : fn' = fn := Option.some.inj (hfn'.symm.trans hfn)
  obtain ⟨⟨⟨ds, gs, before, hw, hc⟩, hx⟩, hz⟩ := hpre
  refine (contract (w.forCall tape i) w.heap.size i.args ds gs before hval (DataW.Whole.of_heap (w' := w.forCall tape i) (by rfl) hw) hc (hz.weights hw) (hX _ _ _ (by rfl) hx) hsh hholds).mono fun e W' ⟨v, he, hp⟩ => ?_
  subst he
  exact ChangeSpec.post_blind hp
theorem var0 {W : World} (h : W.ShapedOpen Tryz.prog) : ∃ m, W.cell? ⟨5, 0, none⟩ = some (.int .i64 m) :=
  cell_of_shapedOpen_int (P := Tryz.prog) (g := 5) (t := 3) (zero := #[.int .i64 0]) h (of_decide_eq_true (by kernel_rfl)) (by kernel_rfl) rfl (by kernel_rfl) (by kernel_rfl) Tryz.underlying3
theorem star1 : "*" ++ "errors.errorString" = "*errors.errorString" := by decide
theorem row1 (u : TypeId) (h : Tryz.prog.typeName? 3 u = some "*errors.errorString") : u = 128 :=
  typeName_ptr_named (nm := "errors.errorString") (by rw [star1]; kernel_rfl) (by kernel_rfl) (by decide) u (by rw [star1]; exact h)
theorem gnm1 : Tryz.prog.globalNamed "strconv.ErrSyntax" = some 1 := by kernel_rfl
theorem var1 {W : World} (h : laidMetH Tryz.prog Rows.lineTellsRow.laid W) : ∃ v, W.cell? ⟨1, 0, none⟩ = some v ∧ (v = .nilIface ∨ ∃ te pe, v = .iface te pe) := by
  rw [MakeChecks.laidMetH_plain _ _ _ (by kernel_rfl)] at h
  obtain ⟨a, s, hv, _⟩ := laid_sentinel (laidMet_tail (laidMet_tail (laidMet_tail (laidMet_tail (laidMet_tail (h)))))) gnm1 (ti := 54) (by kernel_rfl) Tryz.underlying54 row1 Tryz.underlying128 Tryz.underlying130 rfl rfl Tryz.underlying9 (by kernel_rfl) (by kernel_rfl)
  exact ⟨_, by simpa using World.var?_cell gnm1 hv 0, .inr ⟨_, _, rfl⟩⟩

theorem walk (w : World) (a0_0 : Int) (w0_0 : (Lit.int .i64 a0_0).wf = true) (a0_1 : Int) (w0_1 : (Lit.int .i64 a0_1).wf = true) (a0_2 : Int) (w0_2 : (Lit.int .i64 a0_2).wf = true) (a0_3 : Int) (w0_3 : (Lit.int .i64 a0_3).wf = true) (a0_4 : Int) (w0_4 : (Lit.int .i64 a0_4).wf = true) (a1 : Int) (tb0 : Lib.TabIs Tryz.prog w "internal/strconv.uint64pow10" .u64 tab0) (tb1 : Lib.TabIs Tryz.prog w "math/bits.deBruijn32tab" .u8 tab1) (tb2 : Lib.TabIs Tryz.prog w "math/bits.deBruijn64tab" .u8 tab2) (tb3 : Lib.TabIs Tryz.prog w "strings.asciiSpace" .u8 tab3) (mv0 : Int) (hv0 : w.cell? ⟨5, 0, none⟩ = some (.int .i64 mv0)) (mv1 : Value) (hv1 : w.cell? ⟨1, 0, none⟩ = some mv1) (kv1 : mv1 = .nilIface ∨ ∃ te pe, mv1 = .iface te pe) :
    Calls Tryz.prog 3 #[.agg #[.int .i64 a0_0, .int .i64 a0_1, .int .i64 a0_2, .int .i64 a0_3, .int .i64 a0_4], .string (qQj a1)] w fun e w' => e = .returned (.bool true) ∧ Below w.heap.size w w' := by
  refine law_of (cx := cxOf 2) ok ⟨rfl, rfl, rfl⟩ (ρ := envR Tryz.prog [a0_0, a0_1, a0_2, a0_3, a0_4, a1] [tabRo 4 .u64 tab0, tabRo 8 .u8 tab1, tabRo 9 .u8 tab2, tabRo 0 .u8 tab3, ⟨some ⟨5, 0, none⟩, 1, [], 0, 1, some (.int .i64 mv0)⟩, ⟨some ⟨1, 0, none⟩, 2, [], 0, 2, some mv1⟩]) (envR_ok (cx := rc.cx (cxOf 2)) rfl rfl (bnd_cons (wf_bd w0_0) (bnd_cons (wf_bd w0_1) (bnd_cons (wf_bd w0_2) (bnd_cons (wf_bd w0_3) (bnd_cons (wf_bd w0_4) (bnd_nil _)))))) ⟨⟨rfl, (listE_LZ _ _ _ tab0).symm, rfl, rfl, (fun h => by cases h), fun g h => by cases h; exact ⟨rfl, rfl⟩⟩, ⟨⟨rfl, (listE_LZ _ _ _ tab1).symm, rfl, rfl, (fun h => by cases h), fun g h => by cases h; exact ⟨rfl, rfl⟩⟩, ⟨⟨rfl, (listE_LZ _ _ _ tab2).symm, rfl, rfl, (fun h => by cases h), fun g h => by cases h; exact ⟨rfl, rfl⟩⟩, ⟨⟨rfl, (listE_LZ _ _ _ tab3).symm, rfl, rfl, (fun h => by cases h), fun g h => by cases h; exact ⟨rfl, rfl⟩⟩, ⟨⟨rfl, rfl, rfl, rfl, (fun h => by cases h), fun g h => by cases h; exact ⟨rfl, ⟨mv0, rfl⟩⟩⟩, ⟨⟨rfl, rfl, rfl, rfl, (fun h => by cases h), fun g h => by cases h; exact ⟨rfl, ⟨mv1, rfl, kv1⟩⟩⟩, trivial⟩⟩⟩⟩⟩⟩) (fun d hd => by cases hd) (roOk_of ⟨tabRo_at tb0 tabG0 tabW0, ⟨tabRo_at tb1 tabG1 tabW1, ⟨tabRo_at tb2 tabG2 tabW2, ⟨tabRo_at tb3 tabG3 tabW3, ⟨varRo_at hv0, ⟨varRo_at hv1, trivial⟩⟩⟩⟩⟩⟩) ?_
  rw [show rc.args = [.agg [.int .i64 (.v 0), .int .i64 (.v 1), .int .i64 (.v 2), .int .i64 (.v 3), .int .i64 (.v 4)], .str (.v 5)] from rfl]
  simp only [SV.denL, SV.den, E.ev, map_addr_zero]
  rfl
theorem lifted (os : Os) (started : os.Started) (H : Type) (enc : TypeId × Value → H) :
    ReturnsInHanded {} Tryz.checked os 3 .any (fun w args => (Rows.lineTellsSpec.pre enc Tryz.prog Tryz.f3 Rows.lineTellsRow.domain false w args ∧ laidMetH Tryz.prog Rows.lineTellsRow.laid w) ∧ sizedMet enc Tryz.prog Tryz.f3 (OpenSpec.ofChange Rows.lineTellsSpec) false w args)
      (Rows.lineTellsSpec.post enc Tryz.prog Tryz.f3 false true false false) := by
  refine wrap_shaped (C := Tryz.checked) (X := fun w _ => laidMetH Tryz.prog Rows.lineTellsRow.laid w) (fun _ _ _ hh h => h.of_heap hh) own started (by kernel_rfl) Tryz.func3
    (ChangeSpec.witness_shaped (enc := enc) (C := Tryz.checked) (os := os) (X := fun w _ => laidMetH Tryz.prog Rows.lineTellsRow.laid w) false (World.laidAll Tryz.prog os Rows.lineTellsRow.laid) #[.agg #[.int .i64 0, .int .i64 0, .int .i64 0, .int .i64 0, .int .i64 0], .string ⟨#[]⟩] 8 (World.laidAll_os _ _ _)
      (World.shaped_of_ZipB (by kernel_rfl) (by kernel_rfl)) (by kernel_rfl) (by kernel_rfl) (by kernel_rfl)
      (by rw [MakeChecks.laidMetH_plain _ _ _ (by kernel_rfl)]; exact laidMet_laidAll _ (by kernel_rfl) (by kernel_rfl))) ?_
  intro W base args ds gs before hval0 hW hcnd hw0 hL hsh _
  have hval : ∀ (j : Nat) t v, Tryz.f3.params[j]? = some t → args[j]? = some v → Value.okWide Tryz.prog W .any base t v := hval0
  have hW' := hW
  obtain ⟨p, q, hA0, hV, rfl, hfz, hnd⟩ := hW
  have hA : DataW.TrodAll enc Tryz.prog W 0 (fun _ => true) true Tryz.f3.params.toList args.toList ds p := hA0
  have hw := hw0
  rw [Tryz.params3] at hA hval hw
  obtain ⟨v0, vs0, d0, ds0, p0, q0, hargs, rfl, rfl, h0, r0⟩ := trodAll_cons hA
  have h0k := h0
  obtain ⟨v1, vs1, d1, ds1, p1, q1, rfl, rfl, rfl, h1, r1⟩ := trodAll_cons r0
  have h1k := h1
  obtain ⟨rfl, rfl, rfl⟩ := trodAll_nil r1
  obtain rfl : args = #[v0, v1] := by cases args; simp_all
  obtain ⟨rfl, rfl⟩ := trodVars_none hV
  obtain ⟨xs0, hl0, rfl, hx0⟩ := Go.Eng.open_ints (k := .i64) Tryz.underlying23 (by kernel_rfl) (by kernel_rfl) (List.forall_mem_cons.2 ⟨by kernel_rfl, List.forall_mem_cons.2 ⟨by kernel_rfl, List.forall_mem_cons.2 ⟨by kernel_rfl, List.forall_mem_cons.2 ⟨by kernel_rfl, List.forall_mem_cons.2 ⟨by kernel_rfl, fun _ h => nomatch h⟩⟩⟩⟩⟩) (hval 0 23 v0 rfl rfl) h0
  have hl0 : xs0.length = 5 := hl0
  obtain ⟨a0_0, xs0, rfl⟩ := List.exists_cons_of_length_eq_add_one hl0
  have hl0 := Nat.succ.inj hl0
  obtain ⟨a0_1, xs0, rfl⟩ := List.exists_cons_of_length_eq_add_one hl0
  have hl0 := Nat.succ.inj hl0
  obtain ⟨a0_2, xs0, rfl⟩ := List.exists_cons_of_length_eq_add_one hl0
  have hl0 := Nat.succ.inj hl0
  obtain ⟨a0_3, xs0, rfl⟩ := List.exists_cons_of_length_eq_add_one hl0
  have hl0 := Nat.succ.inj hl0
  obtain ⟨a0_4, xs0, rfl⟩ := List.exists_cons_of_length_eq_add_one hl0
  have hl0 := Nat.succ.inj hl0
  obtain rfl := List.eq_nil_of_length_eq_zero hl0
  have w0_0 := hx0 a0_0 (by simp)
  have w0_1 := hx0 a0_1 (by simp)
  have w0_2 := hx0 a0_2 (by simp)
  have w0_3 := hx0 a0_3 (by simp)
  have w0_4 := hx0 a0_4 (by simp)
  obtain ⟨a1, rfl⟩ := Go.Eng.open_str Tryz.underlying9 (hval 1 9 v1 rfl rfl) h1 (weights_of (gs := []) hw (j := 1) (t := 9) rfl rfl)
  obtain ⟨mv0, hv0⟩ := var0 hsh
  obtain ⟨mv1, hv1, kv1⟩ := var1 hL
  clear hA0 hval0
  refine (walk W a0_0 w0_0 a0_1 w0_1 a0_2 w0_2 a0_3 w0_3 a0_4 w0_4 a1 (tabIs0 hL) (tabIs1 hL) (tabIs2 hL) (tabIs3 hL) mv0 hv0 mv1 hv1 kv1).mono fun e W' ⟨he, hg⟩ => ?_
  subst he
  have hin0 : ∀ x ∈ p0, x ∈ p0 ++ (p1 ++ []) ++ [] := fun x hx => by simp [hx]
  have hlt0 : ∀ x ∈ p0, x.block < W.heap.size := fun x hx => by simpa using hW'.lt x (by simp [hx])
  have hin1 : ∀ x ∈ p1, x ∈ p0 ++ (p1 ++ []) ++ [] := fun x hx => by simp [hx]
  have hlt1 : ∀ x ∈ p1, x.block < W.heap.size := fun x hx => by simpa using hW'.lt x (by simp [hx])
  exact ⟨_, rfl, post_below (pa := _) (pv := []) hW' hg (fun _ _ _ => (trodAll_cons_mk (shut_bool Tryz.underlying4 _) trodAll_mk0)) (fun sp hsp => (trodAll_cons_mk (WideElems.Trod_stays laidOut (by kernel_rfl) (of_decide_eq_true (by kernel_rfl)) h0k (fun x hx => hg.same (hlt0 x hx)) (fun x hx => hsp x (hin0 x hx))) (trodAll_cons_mk (WideElems.Trod_stays laidOut (by kernel_rfl) (of_decide_eq_true (by kernel_rfl)) h1k (fun x hx => hg.same (hlt1 x hx)) (fun x hx => hsp x (hin1 x hx))) trodAll_mk0))) (fun _ _ => rfl) (by simp)
    (ok_one (by kernel_rfl) rfl (okWide_bool_mk Tryz.underlying4 _))⟩

theorem over : Rows.lineTellsRow.holds Tryz.pinned (OpenSpec.ofChange Rows.lineTellsSpec) :=
  OpenClaim.holds_of_wide 3 Tryz.f3 rfl rfl rfl rfl rfl rfl rfl ⟨rfl, rfl, rfl, rfl, rfl⟩ rfl rfl rfl rfl rfl (by kernel_rfl) Tryz.func3 (by kernel_rfl)
    (of_decide_eq_true (by kernel_rfl)) (by unfold Func.isWrapper; first | (rw [if_pos (by decide +kernel)]; kernel_rfl) | (rw [if_neg (by decide +kernel)]; exact ⟨rfl, rfl⟩))
    (fun os started H enc _ => lifted os started H enc)

/-- the statement -/
theorem proved : Rows.LineTellsCardSaid :=
  Claim7.holds_tied_plain_at .later [] [.data, .data, .data, .data, .sentinel, .sentinel, .listed, .data, .pinned] true (true, "9ae628a0694c5d572f8c2f92c75f087369d38e139006cebf72ccfe3043863018") true
    over (fun _ h => by cases h) (by kernel_rfl) (fun _ h => by cases h) lineTells_row_tie rfl ⟨rfl, rfl⟩ (by kernel_rfl) rfl
    (fun f fn hf hfn => by
      obtain rfl : f = 3 := Option.some.inj ((show Tryz.prog.funcNamed "astrolabe/astrolabelaw14.LineTells" = some 3 by kernel_rfl).symm.trans hf) |>.symm
      obtain rfl : fn = Tryz.f3 := (Option.some.inj (Tryz.func3.symm.trans hfn)).symm
      exact ⟨by kernel_rfl, fun j t ht => by
        rw [Tryz.params3] at ht
        have h3 : t = 9 ∨ t = 23 := by
          rcases j with _ | _ | j
          · exact (.inr (by simpa using ht.symm))
          · exact (.inl (by simpa using ht.symm))
          · simp at ht
        rcases h3 with rfl | rfl
        · exact (show Tryz.prog.wantsStandIn 9 = false by kernel_rfl)
        · exact (show Tryz.prog.wantsStandIn 23 = false by kernel_rfl)⟩)
    (by kernel_rfl)
#print axioms proved
end Go.Proofs.YtppiabilakeadaaGreatDoor.lineTells
