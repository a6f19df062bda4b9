/-
  The law LineNumbers answers true at every input: the law is run by the engine (a symbolic run, proved sound), the tree of its answers, as a plain statement, is shown to hold. No condition.
-/
import Derived.Test.YtppiabilakeadacDoorKa
import Derived.Test.YtppiabilakeadacDoorKe
import Derived.Test.YtppiabilakeadacDoorKf
import Derived.Test.YtppiabilakeadacDoorGab
import Derived.Test.YtppiabilakeadacDoorGp4
import Derived.WalkKit
import Derived.ProofKit
import Derived.OpenShut
import Derived.LaidMore
import Derived.Stop.Joined
import Derived.SevenTiedAt
import Derived.SizedLaws
import Derived.Lay
import Derived.Test.YtppiabilakeadacDoorCards
import Derived.Test.YtppiabilakeadacDoorTie
import Derived.Shelf.Vars
import Derived.Stop.LaidErr
import Derived.LaidLaws
import Derived.Handed
namespace Go.Proofs.YtppiabilakeadacDoor.lineNumbers
open Go.ChangeShapes Go.WideShapes Go.ChangeAt Go.Eng Go.RowKit
set_option linter.unusedVariables false
set_option linter.unusedSimpArgs false
set_option maxRecDepth 100000
def rc : Rc := ⟨3, [none, none], [.int .i64, .str], [], .one, [.bool (.c 1)]⟩
theorem okb : rc.ok = true := by kernel_rfl
noncomputable def us : SMs := fun Γ ins n => smH (cxG n Γ ins) [] (smR (cxG n Γ ins) [CAwake14.rc, CLNumber.rc, CRDigits.rc])
theorem us_ok : SMsOk us := fun Γ ins n => qJj (tabsG n Γ ins) (qZc _) (qZu (tabsG n Γ ins) (qQa CAwake14.okb (rc_n CAwake14.ok) (qQa CLNumber.okb (rc_n CLNumber.ok) (qQa CRDigits.okb (rc_n CRDigits.ok) (qZd _)))))
def tree : TT (List E) :=
(.br (.b .lt .i64 (.v 0) (.c (-999999999)))
  (.leaf [(.c 1)])
  (.br (.b .lt .i64 (.c 999999999) (.v 0))
  (.leaf [(.c 1)])
  (.br (.b .lt .i64 (.c 100) (.f 21 (.v 1) (.c 0) (.c 0)))
  (.leaf [(.c 1)])
  (.br (.b .le .i64 (.c (-999999999)) (.v 0))
  (.br (.b .le .i64 (.v 0) (.c 999999999))
  (.br (.b .eq .i64 (.f 139 (.f 129 (.v 0) (.c 0) (.c 0)) (.c 0) (.c 0)) (.v 0))
  (.br (.f 138 (.f 129 (.v 0) (.c 0) (.c 0)) (.c 0) (.c 0))
  (.br (.nt (.f 138 (.v 1) (.c 0) (.c 0)))
  (.br (.b .eq .i64 (.f 139 (.v 1) (.c 0) (.c 0)) (.c 0))
  (.leaf [(.c 1)])
  (.leaf [(.c 0)]))
  (.br (.f 20 (.f 129 (.f 139 (.v 1) (.c 0) (.c 0)) (.c 0) (.c 0)) (.v 1) (.c 0))
  (.leaf [(.c 1)])
  (.leaf [(.c 0)])))
  (.leaf [(.c 0)]))
  (.leaf [(.c 0)]))
  (.bad 200))
  (.bad 200)))))

def P (p0 s1 : Int) : Prop :=
 (((qQx (decide (p0 < (-999999999)))) ≠ 0 →
  ((1 : Int) ≠ 0 ↔ (1 : Int) ≠ 0) ∧ True) ∧ ((qQx (decide (p0 < (-999999999)))) = 0 →
  (((qQx (decide (999999999 < p0))) ≠ 0 →
   ((1 : Int) ≠ 0 ↔ (1 : Int) ≠ 0) ∧ True) ∧ ((qQx (decide (999999999 < p0))) = 0 →
   (((qQx (decide (100 < (qQj s1)))) ≠ 0 →
    ((1 : Int) ≠ 0 ↔ (1 : Int) ≠ 0) ∧ True) ∧ ((qQx (decide (100 < (qQj s1)))) = 0 →
    (((qQx (decide ((-999999999) ≤ p0))) ≠ 0 →
     (((qQx (decide (p0 ≤ 999999999))) ≠ 0 →
      (((qQx ((numZ (itoZ p0)) == p0)) ≠ 0 →
       (((numK (itoZ p0)) ≠ 0 →
        (((qQx ((numK s1) == 0)) ≠ 0 →
         (((qQx ((numZ s1) == 0)) ≠ 0 →
          ((1 : Int) ≠ 0 ↔ (1 : Int) ≠ 0) ∧ True) ∧ ((qQx ((numZ s1) == 0)) = 0 →
          ((0 : Int) ≠ 0 ↔ (1 : Int) ≠ 0) ∧ True))) ∧ ((qQx ((numK s1) == 0)) = 0 →
         (((seqZ (itoZ (numZ s1)) s1) ≠ 0 →
          ((1 : Int) ≠ 0 ↔ (1 : Int) ≠ 0) ∧ True) ∧ ((seqZ (itoZ (numZ s1)) s1) = 0 →
          ((0 : Int) ≠ 0 ↔ (1 : Int) ≠ 0) ∧ True))))) ∧ ((numK (itoZ p0)) = 0 →
        ((0 : Int) ≠ 0 ↔ (1 : Int) ≠ 0) ∧ True))) ∧ ((qQx ((numZ (itoZ p0)) == p0)) = 0 →
       ((0 : Int) ≠ 0 ↔ (1 : Int) ≠ 0) ∧ True))) ∧ ((qQx (decide (p0 ≤ 999999999))) = 0 →
      False))) ∧ ((qQx (decide ((-999999999) ≤ p0))) = 0 →
     False))))))))

theorem holds (p0 s1 : Int) (l_p0 : -9223372036854775808 ≤ p0) (u_p0 : p0 ≤ 9223372036854775807) : P p0 s1 := by
  unfold P
  simp only [nrm, Int.reduceEq, Int.reduceNeg, reduceIte]
  refine ⟨fun _ => trivial, fun h1 => ⟨fun _ => trivial, fun h2 => ⟨fun _ => trivial, fun _ => ⟨fun _ => ⟨fun _ => ?_, fun h => by omega⟩, fun h => by omega⟩⟩⟩⟩
  have hi := qZm (n := p0) (by omega) (by omega)
  have hn : numO (bytL (itoZ p0)) = some p0 := by rw [hi]; exact num_itoa ⟨by omega, by omega⟩
  have hz : numZ (itoZ p0) = p0 := by unfold numZ; rw [hn]; rfl
  have hk : ¬ numK (itoZ p0) = 0 := by unfold numK; rw [hn]; simp
  refine ⟨fun _ => ⟨fun _ => ⟨fun hs => ?_, fun hs => ?_⟩, fun h => hk h⟩, fun h => h hz⟩
  · exact ⟨fun _ => trivial, fun h => h (num_zero (numK_none.1 hs)).1.symm⟩
  · have h := numO_ok (numK_some.1 hs)
    have hb := qJb s1
    have : seqZ (itoZ (numZ s1)) s1 ≠ 0 := by
      rw [qKu, qZm (by omega) (by omega)]
      exact h.2.2
    exact ⟨fun _ => trivial, fun h => this h⟩

theorem plain (i v ro p) : statR 2 rc tree ⟨i, fN, v, ro, p⟩ = P (i 0) (i 1) := by kernel_rfl
theorem ran : ranR us (fun _ _ => .auto) rc 2 tree = true := by kernel_rfl
theorem fineT : fineR 2 rc tree = true := by kernel_rfl
theorem ok : RcOk (cxOf 2) rc := okR us_ok ran fineT okb fun i v ro p hρ hcap hpre => by rw [plain]; have q := hρ.hi; exact holds _ _ (q 0 _ rfl).1 (q 0 _ rfl).2
theorem laidMet_tail {P : Program} {x : String × DataW Unit} {rest : List (String × DataW Unit)} {W : World} (h : laidMet P (x :: rest) W) : laidMet P rest W := by
  obtain ⟨ps, hl, hn, hf⟩ := h
  obtain ⟨n, d⟩ := x
  obtain ⟨g, t, cs, fuel, p, q, _, _, _, _, hq, rfl⟩ := hl
  exact ⟨q, hq, (List.nodup_append.1 hn).2.1, fun b off hm => hf b off (List.mem_append_right _ hm)⟩
theorem listE_LZ (P : Program) (l : List Int) (ro : List RO) : ∀ zs : List Int, (qZg (zs.map E.c)).ev (envR P l ro) = LZ zs
  | [] => rfl
  | z :: zs => by
    have h : (qZg ((z :: zs).map E.c)).ev (envR P l ro) = qQq z ((qZg (zs.map E.c)).ev (envR P l ro)) := rfl
    rw [h, listE_LZ P l ro zs]
    unfold qQq
    rw [ZL_LZ]
def tab0 : List Int := [1, 10, 100, 1000, 10000, 100000, 1000000, 10000000, 100000000, 1000000000, 10000000000, 100000000000, 1000000000000, 10000000000000, 100000000000000, 1000000000000000, 10000000000000000, 100000000000000000, 1000000000000000000, 10000000000000000000]
theorem tabG0 : Tryd.prog.globalNamed "internal/strconv.uint64pow10" = some 3 := by kernel_rfl
theorem tabW0 : ∀ z ∈ tab0, IntKind.wrap .u64 z = z := fun z hz => by
  have h := List.all_eq_true.1 (show tab0.all (fun z => decide (IntKind.wrap .u64 z = z)) = true by kernel_rfl) z hz
  simpa using h
theorem tabIs0 {W : World} (h : laidMetH Tryd.prog Rows.lineNumbersRow.laid W) : Lib.TabIs Tryd.prog W "internal/strconv.uint64pow10" .u64 tab0 := by
  rw [MakeChecks.laidMetH_plain _ _ _ (by kernel_rfl)] at h
  exact Lib.tabIs_of_head tabG0 (t := 110) (e := 85) (n := 20) (by kernel_rfl) (by kernel_rfl) (by kernel_rfl) (by kernel_rfl) (by kernel_rfl) (laidMet_tail (laidMet_tail h))
def tab1 : List Int := [0, 1, 28, 2, 29, 14, 24, 3, 30, 22, 20, 15, 25, 17, 4, 8, 31, 27, 13, 23, 21, 19, 16, 7, 26, 12, 18, 6, 11, 5, 10, 9]
theorem tabG1 : Tryd.prog.globalNamed "math/bits.deBruijn32tab" = some 6 := by kernel_rfl
theorem tabW1 : ∀ z ∈ tab1, IntKind.wrap .u8 z = z := fun z hz => by
  have h := List.all_eq_true.1 (show tab1.all (fun z => decide (IntKind.wrap .u8 z = z)) = true by kernel_rfl) z hz
  simpa using h
theorem tabIs1 {W : World} (h : laidMetH Tryd.prog Rows.lineNumbersRow.laid W) : Lib.TabIs Tryd.prog W "math/bits.deBruijn32tab" .u8 tab1 := by
  rw [MakeChecks.laidMetH_plain _ _ _ (by kernel_rfl)] at h
  exact Lib.tabIs_of_head tabG1 (t := 137) (e := 5) (n := 32) (by kernel_rfl) (by kernel_rfl) (by kernel_rfl) (by kernel_rfl) (by kernel_rfl) h
def tab2 : List Int := [0, 1, 56, 2, 57, 49, 28, 3, 61, 58, 42, 50, 38, 29, 17, 4, 62, 47, 59, 36, 45, 43, 51, 22, 53, 39, 33, 30, 24, 18, 12, 5, 63, 55, 48, 27, 60, 41, 37, 16, 46, 35, 44, 21, 52, 32, 23, 11, 54, 26, 40, 15, 34, 20, 31, 10, 25, 14, 19, 9, 13, 8, 7, 6]
theorem tabG2 : Tryd.prog.globalNamed "math/bits.deBruijn64tab" = some 7 := by kernel_rfl
theorem tabW2 : ∀ z ∈ tab2, IntKind.wrap .u8 z = z := fun z hz => by
  have h := List.all_eq_true.1 (show tab2.all (fun z => decide (IntKind.wrap .u8 z = z)) = true by kernel_rfl) z hz
  simpa using h
theorem tabIs2 {W : World} (h : laidMetH Tryd.prog Rows.lineNumbersRow.laid W) : Lib.TabIs Tryd.prog W "math/bits.deBruijn64tab" .u8 tab2 := by
  rw [MakeChecks.laidMetH_plain _ _ _ (by kernel_rfl)] at h
  exact Lib.tabIs_of_head tabG2 (t := 138) (e := 5) (n := 64) (by kernel_rfl) (by kernel_rfl) (by kernel_rfl) (by kernel_rfl) (by kernel_rfl) (laidMet_tail h)
def tab3 : List Int := [0, 0, 0, 0, 0, 0, 0, 0, 0, 1, 1, 1, 1, 1, 0, 0, 0, 0, 0, 0, 0, 0, 0, 0, 0, 0, 0, 0, 0, 0, 0, 0, 1, 0, 0, 0, 0, 0, 0, 0, 0, 0, 0, 0, 0, 0, 0, 0, 0, 0, 0, 0, 0, 0, 0, 0, 0, 0, 0, 0, 0, 0, 0, 0, 0, 0, 0, 0, 0, 0, 0, 0, 0, 0, 0, 0, 0, 0, 0, 0, 0, 0, 0, 0, 0, 0, 0, 0, 0, 0, 0, 0, 0, 0, 0, 0, 0, 0, 0, 0, 0, 0, 0, 0, 0, 0, 0, 0, 0, 0, 0, 0, 0, 0, 0, 0, 0, 0, 0, 0, 0, 0, 0, 0, 0, 0, 0, 0, 0, 0, 0, 0, 0, 0, 0, 0, 0, 0, 0, 0, 0, 0, 0, 0, 0, 0, 0, 0, 0, 0, 0, 0, 0, 0, 0, 0, 0, 0, 0, 0, 0, 0, 0, 0, 0, 0, 0, 0, 0, 0, 0, 0, 0, 0, 0, 0, 0, 0, 0, 0, 0, 0, 0, 0, 0, 0, 0, 0, 0, 0, 0, 0, 0, 0, 0, 0, 0, 0, 0, 0, 0, 0, 0, 0, 0, 0, 0, 0, 0, 0, 0, 0, 0, 0, 0, 0, 0, 0, 0, 0, 0, 0, 0, 0, 0, 0, 0, 0, 0, 0, 0, 0, 0, 0, 0, 0, 0, 0, 0, 0, 0, 0, 0, 0, 0, 0, 0, 0, 0, 0, 0, 0, 0, 0, 0, 0]
theorem tabG3 : Tryd.prog.globalNamed "strings.asciiSpace" = some 2 := by kernel_rfl
theorem tabW3 : ∀ z ∈ tab3, IntKind.wrap .u8 z = z := fun z hz => by
  have h := List.all_eq_true.1 (show tab3.all (fun z => decide (IntKind.wrap .u8 z = z)) = true by kernel_rfl) z hz
  simpa using h
theorem tabIs3 {W : World} (h : laidMetH Tryd.prog Rows.lineNumbersRow.laid W) : Lib.TabIs Tryd.prog W "strings.asciiSpace" .u8 tab3 := by
  rw [MakeChecks.laidMetH_plain _ _ _ (by kernel_rfl)] at h
  exact Lib.tabIs_of_head tabG3 (t := 97) (e := 5) (n := 256) (by kernel_rfl) (by kernel_rfl) (by kernel_rfl) (by kernel_rfl) (by kernel_rfl) (laidMet_tail (laidMet_tail (laidMet_tail (laidMet_tail (laidMet_tail (laidMet_tail (laidMet_tail h)))))))
theorem wrap_shaped {H : Type} {enc : TypeId × Value → H} {a : Assume} {C : Checked} {os : Os} {f : FuncId} {fn : Func} {s : ChangeSpec} {conds : List PathCond} {apart fresh handsOn again : Bool} {X : World → Array Value → Prop}
    (hX : ∀ (w w' : World) (args : Array Value), w.heap = w'.heap → X w args → X w' args)
    (own : ownKnob C.prog.godebug = none) (started : os.Started) (noInit : C.prog.inits.idxOf? f = none) (hfn : C.prog.funcs[f]? = some fn)
    (witness : ∃ (w : World) (tape : Tape) (i : Input), w.os = os ∧ (w.forCall tape i).Shaped C.prog ∧ i.vars = [] ∧ Input.okWide C.prog (w.forCall tape i) .any w.heap.size f i ∧
      ((s.pre enc C.prog fn conds apart (w.forCall tape i).memory i.args ∧ X (w.forCall tape i).memory i.args) ∧ sizedMet enc C.prog fn (OpenSpec.ofChange s) apart (w.forCall tape i).memory i.args) ∧ a.holds C.prog (lone (Frame.enter C.prog f i.args .normal) [] (w.forCall tape i)))
    (contract : ∀ (W : World) (base : Nat) (args : Array Value) (ds gs : List (DataW H)) (before : List MemPlace),
      (∀ (j : Nat) t v, fn.params[j]? = some t → args[j]? = some v → Value.okWide C.prog W .any base t v) →
      DataW.Whole enc C.prog fn.params.toList s.vars apart W args.toList ds gs before →
      conds.all (PathCond.test C.prog ⟨fn.params.toList, ds, s.plain.varTypes C.prog, gs⟩) = true →
      (DataW.weightsEach C.prog (fn.params.toList ++ s.plain.varTypes C.prog) (ds ++ gs)).all (· ≤ reachBytes) = true → X W args → W.ShapedOpen C.prog →
      a.holds C.prog (lone (Frame.enter C.prog f args .normal) [] W) →
      Calls C.prog f args W fun e W' => ∃ v, e = .returned v ∧ s.post enc C.prog fn apart fresh handsOn again W args v W') :
    ReturnsInHanded a C os f .any (fun w args => (s.pre enc C.prog fn conds apart w args ∧ X w args) ∧ sizedMet enc C.prog fn (OpenSpec.ofChange s) apart w args) (s.post enc C.prog fn apart fresh handsOn again) := by
  refine returnsInHanded_of_calls own started noInit witness ?_
  intro w tape i _ hsh _ hok hpre hholds
  obtain ⟨_, _, _, fn', hfn', _, _, _, _, hval⟩ := hok
  obtain rfl : fn' = fn := Option.some.inj (hfn'.symm.trans hfn)
  obtain ⟨⟨⟨ds, gs, before, hw, hc⟩, hx⟩, hz⟩ := hpre
  refine (contract (w.forCall tape i) w.heap.size i.args ds gs before hval (DataW.Whole.of_heap (w' := w.forCall tape i) (by rfl) hw) hc (hz.weights hw) (hX _ _ _ (by rfl) hx) hsh hholds).mono fun e W' ⟨v, he, hp⟩ => ?_
  subst he
  exact ChangeSpec.post_blind hp
theorem var0 {W : World} (h : W.ShapedOpen Tryd.prog) : ∃ m, W.cell? ⟨5, 0, none⟩ = some (.int .i64 m) :=
  cell_of_shapedOpen_int (P := Tryd.prog) (g := 5) (t := 3) (zero := #[.int .i64 0]) h (of_decide_eq_true (by kernel_rfl)) (by kernel_rfl) rfl (by kernel_rfl) (by kernel_rfl) Tryd.underlying3
theorem star1 : "*" ++ "errors.errorString" = "*errors.errorString" := by decide
theorem row1 (u : TypeId) (h : Tryd.prog.typeName? 3 u = some "*errors.errorString") : u = 105 :=
  typeName_ptr_named (nm := "errors.errorString") (by rw [star1]; kernel_rfl) (by kernel_rfl) (by decide) u (by rw [star1]; exact h)
theorem gnm1 : Tryd.prog.globalNamed "strconv.ErrSyntax" = some 0 := by kernel_rfl
theorem var1 {W : World} (h : laidMetH Tryd.prog Rows.lineNumbersRow.laid W) : ∃ v, W.cell? ⟨0, 0, none⟩ = some v ∧ (v = .nilIface ∨ ∃ te pe, v = .iface te pe) := by
  rw [MakeChecks.laidMetH_plain _ _ _ (by kernel_rfl)] at h
  obtain ⟨a, s, hv, _⟩ := laid_sentinel (laidMet_tail (laidMet_tail (laidMet_tail (laidMet_tail (laidMet_tail (h)))))) gnm1 (ti := 36) (by kernel_rfl) Tryd.underlying36 row1 Tryd.underlying105 Tryd.underlying107 rfl rfl Tryd.underlying9 (by kernel_rfl) (by kernel_rfl)
  exact ⟨_, by simpa using World.var?_cell gnm1 hv 0, .inr ⟨_, _, rfl⟩⟩

theorem walk (w : World) (a0 : Int) (w0 : (Lit.int .i64 a0).wf = true) (a1 : Int) (tb0 : Lib.TabIs Tryd.prog w "internal/strconv.uint64pow10" .u64 tab0) (tb1 : Lib.TabIs Tryd.prog w "math/bits.deBruijn32tab" .u8 tab1) (tb2 : Lib.TabIs Tryd.prog w "math/bits.deBruijn64tab" .u8 tab2) (tb3 : Lib.TabIs Tryd.prog w "strings.asciiSpace" .u8 tab3) (mv0 : Int) (hv0 : w.cell? ⟨5, 0, none⟩ = some (.int .i64 mv0)) (mv1 : Value) (hv1 : w.cell? ⟨0, 0, none⟩ = some mv1) (kv1 : mv1 = .nilIface ∨ ∃ te pe, mv1 = .iface te pe) :
    Calls Tryd.prog 3 #[.int .i64 a0, .string (qQz a1)] w fun e w' => e = .returned (.bool true) ∧ Below w.heap.size w w' := by
  refine law_of (cx := cxOf 2) ok ⟨rfl, rfl, rfl⟩ (ρ := envR Tryd.prog [a0, a1] [tabRo 3 .u64 tab0, tabRo 6 .u8 tab1, tabRo 7 .u8 tab2, tabRo 2 .u8 tab3, ⟨some ⟨5, 0, none⟩, 1, [], 0, 1, some (.int .i64 mv0)⟩, ⟨some ⟨0, 0, none⟩, 2, [], 0, 2, some mv1⟩]) (envR_ok (cx := rc.cx (cxOf 2)) rfl rfl (bnd_cons (wf_bd w0) (bnd_nil _)) ⟨⟨rfl, (listE_LZ _ _ _ tab0).symm, rfl, rfl, (fun h => by cases h), fun g h => by cases h; exact ⟨rfl, rfl⟩⟩, ⟨⟨rfl, (listE_LZ _ _ _ tab1).symm, rfl, rfl, (fun h => by cases h), fun g h => by cases h; exact ⟨rfl, rfl⟩⟩, ⟨⟨rfl, (listE_LZ _ _ _ tab2).symm, rfl, rfl, (fun h => by cases h), fun g h => by cases h; exact ⟨rfl, rfl⟩⟩, ⟨⟨rfl, (listE_LZ _ _ _ tab3).symm, rfl, rfl, (fun h => by cases h), fun g h => by cases h; exact ⟨rfl, rfl⟩⟩, ⟨⟨rfl, rfl, rfl, rfl, (fun h => by cases h), fun g h => by cases h; exact ⟨rfl, ⟨mv0, rfl⟩⟩⟩, ⟨⟨rfl, rfl, rfl, rfl, (fun h => by cases h), fun g h => by cases h; exact ⟨rfl, ⟨mv1, rfl, kv1⟩⟩⟩, trivial⟩⟩⟩⟩⟩⟩) (fun d hd => by cases hd) (roOk_of ⟨tabRo_at tb0 tabG0 tabW0, ⟨tabRo_at tb1 tabG1 tabW1, ⟨tabRo_at tb2 tabG2 tabW2, ⟨tabRo_at tb3 tabG3 tabW3, ⟨varRo_at hv0, ⟨varRo_at hv1, trivial⟩⟩⟩⟩⟩⟩) ?_
  rw [show rc.args = [.int .i64 (.v 0), .str (.v 1)] from rfl]
  simp only [SV.denL, SV.den, E.ev, map_addr_zero]
  rfl
theorem lifted (os : Os) (started : os.Started) (H : Type) (enc : TypeId × Value → H) :
    ReturnsInHanded {} Tryd.checked os 3 .any (fun w args => (Rows.lineNumbersSpec.pre enc Tryd.prog Tryd.f3 Rows.lineNumbersRow.domain false w args ∧ laidMetH Tryd.prog Rows.lineNumbersRow.laid w) ∧ sizedMet enc Tryd.prog Tryd.f3 (OpenSpec.ofChange Rows.lineNumbersSpec) false w args)
      (Rows.lineNumbersSpec.post enc Tryd.prog Tryd.f3 false true false false) := by
  refine wrap_shaped (C := Tryd.checked) (X := fun w _ => laidMetH Tryd.prog Rows.lineNumbersRow.laid w) (fun _ _ _ hh h => h.of_heap hh) own started (by kernel_rfl) Tryd.func3
    (ChangeSpec.witness_shaped (enc := enc) (C := Tryd.checked) (os := os) (X := fun w _ => laidMetH Tryd.prog Rows.lineNumbersRow.laid w) false (World.laidAll Tryd.prog os Rows.lineNumbersRow.laid) #[.int .i64 0, .string ⟨#[]⟩] 8 (World.laidAll_os _ _ _)
      (World.shaped_of_ZipB (by kernel_rfl) (by kernel_rfl)) (by kernel_rfl) (by kernel_rfl) (by kernel_rfl)
      (by rw [MakeChecks.laidMetH_plain _ _ _ (by kernel_rfl)]; exact laidMet_laidAll _ (by kernel_rfl) (by kernel_rfl))) ?_
  intro W base args ds gs before hval0 hW hcnd hw0 hL hsh _
  have hval : ∀ (j : Nat) t v, Tryd.f3.params[j]? = some t → args[j]? = some v → Value.okWide Tryd.prog W .any base t v := hval0
  have hW' := hW
  obtain ⟨p, q, hA0, hV, rfl, hfz, hnd⟩ := hW
  have hA : DataW.TrodAll enc Tryd.prog W 0 (fun _ => true) true Tryd.f3.params.toList args.toList ds p := hA0
  have hw := hw0
  rw [Tryd.params3] at hA hval hw
  obtain ⟨v0, vs0, d0, ds0, p0, q0, hargs, rfl, rfl, h0, r0⟩ := trodAll_cons hA
  have h0k := h0
  obtain ⟨v1, vs1, d1, ds1, p1, q1, rfl, rfl, rfl, h1, r1⟩ := trodAll_cons r0
  have h1k := h1
  obtain ⟨rfl, rfl, rfl⟩ := trodAll_nil r1
  obtain rfl : args = #[v0, v1] := by cases args; simp_all
  obtain ⟨rfl, rfl⟩ := trodVars_none hV
  obtain ⟨a0, rfl, rfl, rfl, w0⟩ := open_int Tryd.underlying3 (hval 0 3 v0 rfl rfl) h0
  obtain ⟨a1, rfl⟩ := Go.Eng.open_str Tryd.underlying9 (hval 1 9 v1 rfl rfl) h1 (weights_of (gs := []) hw (j := 1) (t := 9) rfl rfl)
  obtain ⟨mv0, hv0⟩ := var0 hsh
  obtain ⟨mv1, hv1, kv1⟩ := var1 hL
  clear hA0 hval0
  refine (walk W a0 w0 a1 (tabIs0 hL) (tabIs1 hL) (tabIs2 hL) (tabIs3 hL) mv0 hv0 mv1 hv1 kv1).mono fun e W' ⟨he, hg⟩ => ?_
  subst he
  have hin1 : ∀ x ∈ p1, x ∈ [] ++ (p1 ++ []) ++ [] := fun x hx => by simp [hx]
  have hlt1 : ∀ x ∈ p1, x.block < W.heap.size := fun x hx => by simpa using hW'.lt x (by simp [hx])
  exact ⟨_, rfl, post_below (pa := _) (pv := []) hW' hg (fun _ _ _ => (trodAll_cons_mk (shut_bool Tryd.underlying4 _) trodAll_mk0)) (fun sp hsp => (trodAll_cons_mk (shut_int Tryd.underlying3 w0) (trodAll_cons_mk (WideElems.Trod_stays laidOut (by kernel_rfl) (of_decide_eq_true (by kernel_rfl)) h1k (fun x hx => hg.same (hlt1 x hx)) (fun x hx => hsp x (hin1 x hx))) trodAll_mk0))) (fun _ _ => rfl) (by simp)
    (ok_one (by kernel_rfl) rfl (okWide_bool_mk Tryd.underlying4 _))⟩

theorem over : Rows.lineNumbersRow.holds Tryd.pinned (OpenSpec.ofChange Rows.lineNumbersSpec) :=
  OpenClaim.holds_of_wide 3 Tryd.f3 rfl rfl rfl rfl rfl rfl rfl ⟨rfl, rfl, rfl, rfl, rfl⟩ rfl rfl rfl rfl rfl (by kernel_rfl) Tryd.func3 (by kernel_rfl)
    (of_decide_eq_true (by kernel_rfl)) (by unfold Func.isWrapper; first | (rw [if_pos (by decide +kernel)]; kernel_rfl) | (rw [if_neg (by decide +kernel)]; exact ⟨rfl, rfl⟩))
    (fun os started H enc _ => lifted os started H enc)

/-- the statement -/
theorem proved : Rows.LineNumbersCardSaid :=
  Claim7.holds_tied_plain_at .later [] [.data, .data, .data, .data, .sentinel, .sentinel, .listed, .data, .pinned] true (true, "21c6e558336492681eb06398ee5364062431c306a45c6e700bf00a8cb8bd2eca") true
    over (fun _ h => by cases h) (by kernel_rfl) (fun _ h => by cases h) lineNumbers_row_tie rfl ⟨rfl, rfl⟩ (by kernel_rfl) rfl
    (fun f fn hf hfn => by
      obtain rfl : f = 3 := Option.some.inj ((show Tryd.prog.funcNamed "astrolabe/astrolabelaw14.LineNumbers" = some 3 by kernel_rfl).symm.trans hf) |>.symm
      obtain rfl : fn = Tryd.f3 := (Option.some.inj (Tryd.func3.symm.trans hfn)).symm
      exact ⟨by kernel_rfl, fun j t ht => by
        rw [Tryd.params3] at ht
        have h3 : t = 3 ∨ t = 9 := by
          rcases j with _ | _ | j
          · exact (.inl (by simpa using ht.symm))
          · exact (.inr (by simpa using ht.symm))
          · simp at ht
        rcases h3 with rfl | rfl
        · exact (show Tryd.prog.wantsStandIn 3 = false by kernel_rfl)
        · exact (show Tryd.prog.wantsStandIn 9 = false by kernel_rfl)⟩)
    (by kernel_rfl)
#print axioms proved
end Go.Proofs.YtppiabilakeadacDoor.lineNumbers
