/-
  The law TurnFolds answers true at every input: the program's angle, and its sine and cosine, are told by whole numbers' functions (the engine's runs), and how near these are to the true ones is shown in rational numbers. No condition.
-/
import Derived.Test.YtjooaieolphomaaLawAng
import Derived.OpenShut
namespace Go.Proofs.Ytjooaieolphomaa.turnFolds
open Go.ChangeShapes Go.WideShapes Go.ChangeAt Go.RowKit
open Go.Eng Go.Proofs.Ytjooaieolphomaa.lawAng
open Go.Tr (wavY wavX wC wS wcs wss wsq vst fold Rt PiZ farI amt true_ok round_ok back_ok vec_range wsq_ok wcs_ok wss_ok wS_ok wC_ok WZ bd_W tdiv_abs lo up wst_bd b0Z)
set_option linter.unusedVariables false
set_option linter.unusedSimpArgs false
theorem own : ownKnob Try.prog.godebug = none := by kernel_rfl
set_option maxRecDepth 100000
def tree : Eng.T E :=
(.br (.b .lt .i64 (.v 0) (.c 1))
  (.leaf (.c 1))
  (.br (.b .lt .i64 (.v 1) (.c 1))
  (.leaf (.c 1))
  (.new 1002 (.f 4 (.w .i32 (.b .psub .i64 (.c 0) (.v 0))) (.v 1) (.c 0))
  (.new 1003 (.w .i32 (.b .psub .i64 (.c 0) (.f 4 (.v 0) (.v 1) (.c 0))))
  (.br (.b .ne .i64 (.cl 1002 (-2147483648) 2147483647) (.cl 1003 (-2147483648) 2147483647))
  (.leaf (.c 0))
  (.new 1005 (.f 4 (.v 0) (.w .i32 (.b .psub .i64 (.c 0) (.v 1))) (.c 0))
  (.new 1006 (.w .i32 (.b .psub .i64 (.c 1686629713) (.f 4 (.v 0) (.v 1) (.c 0))))
  (.br (.b .ne .i64 (.cl 1005 (-2147483648) 2147483647) (.cl 1006 (-2147483648) 2147483647))
  (.leaf (.c 0))
  (.new 1008 (.f 4 (.w .i32 (.b .psub .i64 (.c 0) (.v 0))) (.w .i32 (.b .psub .i64 (.c 0) (.v 1))) (.c 0))
  (.new 1009 (.w .i32 (.b .psub .i64 (.f 4 (.v 0) (.v 1) (.c 0)) (.c 1686629713)))
  (.br (.b .ne .i64 (.cl 1008 (-2147483648) 2147483647) (.cl 1009 (-2147483648) 2147483647))
  (.leaf (.c 0))
  (.br (.b .eq .i64 (.v 1) (.v 0))
  (.br (.b .lt .i64 (.c (-2048)) (.f 4 (.v 0) (.v 1) (.c 0)))
  (.br (.b .lt .i64 (.f 4 (.v 0) (.v 1) (.c 0)) (.c 843316905))
  (.leaf (.c 1))
  (.leaf (.c 0)))
  (.leaf (.c 0)))
  (.new 1012 (.w .i32 (.b .psub .i64 (.c 843314857) (.f 4 (.v 0) (.v 1) (.c 0))))
  (.br (.b .eq .i64 (.f 4 (.v 1) (.v 0) (.c 0)) (.cl 1012 (-2147483648) 2147483647))
  (.br (.b .lt .i64 (.c (-2048)) (.f 4 (.v 0) (.v 1) (.c 0)))
  (.br (.b .lt .i64 (.f 4 (.v 0) (.v 1) (.c 0)) (.c 843316905))
  (.leaf (.c 1))
  (.leaf (.c 0)))
  (.leaf (.c 0)))
  (.leaf (.c 0))))))))))))))))
def P (a0 a1 : Int) : Prop :=
 (((bool01 (decide (a0 < 1))) ≠ 0 →
  (1 : Int) ≠ 0) ∧ ((bool01 (decide (a0 < 1))) = 0 →
  (((bool01 (decide (a1 < 1))) ≠ 0 →
   (1 : Int) ≠ 0) ∧ ((bool01 (decide (a1 < 1))) = 0 →
   ∀ y1002 : Int, y1002 = (F' 4 (IntKind.wrap .i32 (0 - a0)) a1 0) → (-2147483648 ≤ y1002 ∧ y1002 ≤ 2147483647) →
   ∀ y1003 : Int, y1003 = (IntKind.wrap .i32 (0 - (F' 4 a0 a1 0))) → (-2147483648 ≤ y1003 ∧ y1003 ≤ 2147483647) →
   (((bool01 (y1002 != y1003)) ≠ 0 →
    (0 : Int) ≠ 0) ∧ ((bool01 (y1002 != y1003)) = 0 →
    ∀ y1005 : Int, y1005 = (F' 4 a0 (IntKind.wrap .i32 (0 - a1)) 0) → (-2147483648 ≤ y1005 ∧ y1005 ≤ 2147483647) →
    ∀ y1006 : Int, y1006 = (IntKind.wrap .i32 (1686629713 - (F' 4 a0 a1 0))) → (-2147483648 ≤ y1006 ∧ y1006 ≤ 2147483647) →
    (((bool01 (y1005 != y1006)) ≠ 0 →
     (0 : Int) ≠ 0) ∧ ((bool01 (y1005 != y1006)) = 0 →
     ∀ y1008 : Int, y1008 = (F' 4 (IntKind.wrap .i32 (0 - a0)) (IntKind.wrap .i32 (0 - a1)) 0) → (-2147483648 ≤ y1008 ∧ y1008 ≤ 2147483647) →
     ∀ y1009 : Int, y1009 = (IntKind.wrap .i32 ((F' 4 a0 a1 0) - 1686629713)) → (-2147483648 ≤ y1009 ∧ y1009 ≤ 2147483647) →
     (((bool01 (y1008 != y1009)) ≠ 0 →
      (0 : Int) ≠ 0) ∧ ((bool01 (y1008 != y1009)) = 0 →
      (((bool01 (a1 == a0)) ≠ 0 →
       (((bool01 (decide ((-2048) < (F' 4 a0 a1 0)))) ≠ 0 →
        (((bool01 (decide ((F' 4 a0 a1 0) < 843316905))) ≠ 0 →
         (1 : Int) ≠ 0) ∧ ((bool01 (decide ((F' 4 a0 a1 0) < 843316905))) = 0 →
         (0 : Int) ≠ 0))) ∧ ((bool01 (decide ((-2048) < (F' 4 a0 a1 0)))) = 0 →
        (0 : Int) ≠ 0))) ∧ ((bool01 (a1 == a0)) = 0 →
       ∀ y1012 : Int, y1012 = (IntKind.wrap .i32 (843314857 - (F' 4 a0 a1 0))) → (-2147483648 ≤ y1012 ∧ y1012 ≤ 2147483647) →
       (((bool01 ((F' 4 a1 a0 0) == y1012)) ≠ 0 →
        (((bool01 (decide ((-2048) < (F' 4 a0 a1 0)))) ≠ 0 →
         (((bool01 (decide ((F' 4 a0 a1 0) < 843316905))) ≠ 0 →
          (1 : Int) ≠ 0) ∧ ((bool01 (decide ((F' 4 a0 a1 0) < 843316905))) = 0 →
          (0 : Int) ≠ 0))) ∧ ((bool01 (decide ((-2048) < (F' 4 a0 a1 0)))) = 0 →
         (0 : Int) ≠ 0))) ∧ ((bool01 ((F' 4 a1 a0 0) == y1012)) = 0 →
        (0 : Int) ≠ 0))))))))))))))

theorem plain (a0 a1 : Int) : T.holdsP (cxL [(-2147483648, 2147483647), (-2147483648, 2147483647)]) (envL [a0, a1]) tree = P a0 a1 := by kernel_rfl
theorem tr {p : Prop} [Decidable p] : bool01 (decide p) ≠ 0 ↔ p := by by_cases h : p <;> simp [bool01, h]
theorem fa {p : Prop} [Decidable p] : bool01 (decide p) = 0 ↔ ¬p := by by_cases h : p <;> simp [bool01, h]
theorem ne01 {x y : Int} : bool01 (x != y) ≠ 0 ↔ x ≠ y := by by_cases h : x = y <;> simp [bool01, h]
theorem eq01 {x y : Int} : bool01 (x == y) = 0 ↔ x ≠ y := by by_cases h : x = y <;> simp [bool01, h]
theorem ang_pos {y x : Int} (hy : 1 ≤ y) (hx : 1 ≤ x) {al : Int} : fold al (amt x) (amt y) x y = if x < y then Rt - al else al := by
  unfold fold amt
  simp only [if_neg (show ¬ y < 0 by omega), if_neg (show ¬ x < 0 by omega)]
/-- the four places, and the one with both changed round -/
theorem folds {y x : Int} (hy : 1 ≤ y) (hx : 1 ≤ x) (uy : y ≤ 2147483647) (ux : x ≤ 2147483647) :
    -2048 < angZ y x ∧ angZ y x < 843316905 ∧ angZ (-y) x = -angZ y x ∧ angZ y (-x) = 1686629713 - angZ y x ∧ angZ (-y) (-x) = angZ y x - 1686629713 ∧ (x ≠ y → angZ x y = 843314857 - angZ y x) := by
  have hV := z_ok (y := y) (x := x) (by omega) (by omega) (by omega) (by omega) (by omega)
  obtain ⟨r1, r2⟩ := vec_range hV.h1 hV.h2 hV.h3 hV.h4
  have ny : amt (-y) = amt y := by unfold amt; split <;> split <;> omega
  have nx : amt (-x) = amt x := by unfold amt; split <;> split <;> omega
  have e : angZ y x = if x < y then Rt - (vst (x0Z y x) (y0Z y x) 28).2.2 else (vst (x0Z y x) (y0Z y x) 28).2.2 := ang_pos hy hx
  have e1 : angZ (-y) x = -angZ y x := by
    rw [e]
    unfold angZ x0Z y0Z gZ lZ
    simp only [ny]
    unfold fold
    simp only [if_pos (show -y < 0 by omega), if_neg (show ¬ x < 0 by omega)]
    rw [show amt x = x by unfold amt; rw [if_neg (by omega)], show amt y = y by unfold amt; rw [if_neg (by omega)]]
  have e2 : angZ y (-x) = 1686629713 - angZ y x := by
    rw [e]
    unfold angZ x0Z y0Z gZ lZ
    simp only [nx]
    unfold fold
    simp only [if_neg (show ¬ y < 0 by omega), if_pos (show -x < 0 by omega)]
    rw [show amt x = x by unfold amt; rw [if_neg (by omega)], show amt y = y by unfold amt; rw [if_neg (by omega)]]
    rfl
  have e3 : angZ (-y) (-x) = angZ y x - 1686629713 := by
    rw [e]
    unfold angZ x0Z y0Z gZ lZ
    simp only [nx, ny]
    unfold fold
    simp only [if_pos (show -y < 0 by omega), if_pos (show -x < 0 by omega)]
    rw [show amt x = x by unfold amt; rw [if_neg (by omega)], show amt y = y by unfold amt; rw [if_neg (by omega)]]
    unfold PiZ
    omega
  refine ⟨?_, ?_, e1, e2, e3, fun hne => ?_⟩
  · rw [e]; unfold Rt; split <;> omega
  · rw [e]; unfold Rt; split <;> omega
  · have g : gZ x y = gZ y x := by unfold gZ amt; repeat' split
                                   all_goals omega
    have l : lZ x y = lZ y x := by unfold lZ amt; repeat' split
                                   all_goals omega
    have ex : angZ x y = if y < x then Rt - (vst (x0Z x y) (y0Z x y) 28).2.2 else (vst (x0Z x y) (y0Z x y) 28).2.2 := ang_pos hx hy
    have q1 : x0Z x y = x0Z y x := by unfold x0Z; rw [g]
    have q2 : y0Z x y = y0Z y x := by unfold y0Z; rw [g, l]
    rw [ex, e, q1, q2]
    unfold Rt
    split <;> split <;> omega
theorem w32 {x : Int} (l : -2147483648 ≤ x) (u : x ≤ 2147483647) : IntKind.wrap .i32 x = x := wr32 l u
theorem holds (a0 a1 : Int) (l0 : -2147483648 ≤ a0) (u0 : a0 ≤ 2147483647) (l1 : -2147483648 ≤ a1) (u1 : a1 ≤ 2147483647) : P a0 a1 := by
  unfold P
  refine ⟨fun _ => by decide, fun h0 => ⟨fun _ => by decide, fun h1 => ?_⟩⟩
  rw [fa] at h0 h1
  obtain ⟨f1, f2, f3, f4, f5, f6⟩ := folds (y := a0) (x := a1) (by omega) (by omega) u0 u1
  have A0 : F' 4 a0 a1 0 = angZ a0 a1 := angF a0 a1 (by omega) (by omega) (by omega) (by omega) (by omega) 0
  have A1 : F' 4 (-a0) a1 0 = angZ (-a0) a1 := angF (-a0) a1 (by omega) (by omega) (by omega) (by omega) (by omega) 0
  have A2 : F' 4 a0 (-a1) 0 = angZ a0 (-a1) := angF a0 (-a1) (by omega) (by omega) (by omega) (by omega) (by omega) 0
  have A3 : F' 4 (-a0) (-a1) 0 = angZ (-a0) (-a1) := angF (-a0) (-a1) (by omega) (by omega) (by omega) (by omega) (by omega) 0
  have A4 : F' 4 a1 a0 0 = angZ a1 a0 := angF a1 a0 (by omega) (by omega) (by omega) (by omega) (by omega) 0
  rw [w32 (x := 0 - a0) (by omega) (by omega), w32 (x := 0 - a1) (by omega) (by omega), Int.zero_sub a0, Int.zero_sub a1, A0, A1, A2, A3, A4, f3, f4, f5]
  clear A0 A1 A2 A3 A4 f3 f4 f5
  generalize angZ a1 a0 = b at *
  generalize angZ a0 a1 = a at *
  intro y1002 e1002 _ y1003 e1003 _
  rw [w32 (by omega) (by omega)] at e1003
  refine ⟨fun h => absurd (by omega : y1002 = y1003) (ne01.1 h), fun _ => ?_⟩
  intro y1005 e1005 _ y1006 e1006 _
  rw [w32 (by omega) (by omega)] at e1006
  refine ⟨fun h => absurd (by omega : y1005 = y1006) (ne01.1 h), fun _ => ?_⟩
  intro y1008 e1008 _ y1009 e1009 _
  rw [w32 (by omega) (by omega)] at e1009
  refine ⟨fun h => absurd (by omega : y1008 = y1009) (ne01.1 h), fun _ => ?_⟩
  refine ⟨fun _ => ⟨fun _ => ⟨fun _ => by decide, fun h => absurd h (tr.2 f2)⟩, fun h => absurd h (tr.2 f1)⟩, fun h => ?_⟩
  have hb := f6 (eq01.1 h)
  intro y1012 e1012 _
  rw [w32 (by omega) (by omega)] at e1012
  refine ⟨fun _ => ⟨fun _ => ⟨fun _ => by decide, fun h => absurd h (tr.2 f2)⟩, fun h => absurd h (tr.2 f1)⟩, fun h => ?_⟩
  exact absurd (by omega : b = y1012) (eq01.1 h)

theorem ran : T.beq (projB (runL [(-2147483648, 2147483647), (-2147483648, 2147483647)] 11 [.int .i32 (.v 0), .int .i32 (.v 1)] ⟨[], []⟩)) tree = true := by kernel_rfl
theorem fineT : (Nat.ble (cxL [(-2147483648, 2147483647), (-2147483648, 2147483647)]).Γ.length 1000 && T.fine 1000 tree && SV.vbL 1000 [.int .i32 (.v 0), .int .i32 (.v 1)]) = true := by kernel_rfl
theorem tidyT : T.tidy (cxL [(-2147483648, 2147483647), (-2147483648, 2147483647)]) [] tree = true := by kernel_rfl
theorem walk (a0 a1 : Int) (w0 : (Lit.int .i32 a0).wf = true) (w1 : (Lit.int .i32 a1).wf = true) (w : World) :
    Calls Try.prog 11 #[.int .i32 a0, .int .i32 a1] w fun e w' => e = .returned (.bool true) ∧ Below w.heap.size w w' :=
  truthP_of (runL_ok [(-2147483648, 2147483647), (-2147483648, 2147483647)]) (ρ := envL [a0, a1]) (envL_ok (bnd_cons (wf_bd w0) (bnd_cons (wf_bd w1) (bnd_nil _)))) (f := 11) (args := [.int .i32 (.v 0), .int .i32 (.v 1)]) (t := tree) ran (by rw [fineT, tidyT]; rfl)
    (by rw [plain]; exact holds a0 a1 (wf_bd w0).1 (wf_bd w0).2 (wf_bd w1).1 (wf_bd w1).2) rfl w

/-! ### the row's step -/
set_option maxRecDepth 100000
theorem lifted (os : Os) (started : os.Started) (H : Type) (enc : TypeId × Value → H) :
    ReturnsInHanded {} Try.checked os 11 .any (Rows.turnFoldsSpec.pre6 enc Try.prog Try.f11 Rows.turnFoldsRow.domain false) (Rows.turnFoldsSpec.post enc Try.prog Try.f11 false true false false) := by
  refine returnsInHanded_of_change (C := Try.checked) own started (by kernel_rfl) Try.func11
    (ChangeSpec.witness6 (enc := enc) (C := Try.checked) false ⟨#[], #[.int .i32 0, .int .i32 0], []⟩ 8 (by kernel_rfl) (by kernel_rfl) (by kernel_rfl) (by kernel_rfl)) ?_
  intro W base args ds gs before hval0 hW hcnd _
  have hval : ∀ (j : Nat) t v, Try.f11.params[j]? = some t → args[j]? = some v → Value.okWide Try.prog W .any base t v := hval0
  have hW' := hW
  obtain ⟨p, q, hA0, hV, rfl, hfz, hnd⟩ := hW
  have hA : DataW.TrodAll enc Try.prog W 0 (fun _ => true) true Try.f11.params.toList args.toList ds p := hA0
  rw [Try.params11] at hA hval
  obtain ⟨v0, vs0, d0, ds0, p0, q0, hargs, rfl, rfl, h0, r0⟩ := trodAll_cons hA
  obtain ⟨v1, vs1, d1, ds1, p1, q1, rfl, rfl, rfl, h1, r1⟩ := trodAll_cons r0
  obtain ⟨rfl, rfl, rfl⟩ := trodAll_nil r1
  obtain rfl : args = #[v0, v1] := by cases args; simp_all
  obtain ⟨rfl, rfl⟩ := trodVars_none hV
  obtain ⟨a0, rfl, rfl, rfl, w0⟩ := open_int Try.underlying21 (hval 0 21 v0 rfl rfl) h0
  obtain ⟨a1, rfl, rfl, rfl, w1⟩ := open_int Try.underlying21 (hval 1 21 v1 rfl rfl) h1
  clear hA0 hval0
  simp only [List.append_nil] at hW'
  refine (walk a0 a1 w0 w1 W).mono fun e W' ⟨he, hg⟩ => ?_
  subst he
  exact ⟨_, rfl, post_below (pa := []) (pv := []) hW' hg (fun _ _ _ => (trodAll_cons_mk (shut_bool Try.underlying4 _) trodAll_mk0)) (fun sp _ => (trodAll_cons_mk (shut_int Try.underlying21 w0) (trodAll_cons_mk (shut_int Try.underlying21 w1) trodAll_mk0))) (fun _ _ => rfl) rfl
    (ok_one (by kernel_rfl) rfl (okWide_bool_mk Try.underlying4 _))⟩

theorem over : Rows.turnFoldsRow.holds Try.pinned (OpenSpec.ofChange Rows.turnFoldsSpec) :=
  OpenClaim.holds_of_wide 11 Try.f11 rfl rfl rfl rfl rfl rfl rfl ⟨rfl, rfl, rfl, rfl, rfl⟩ rfl rfl rfl rfl rfl (by kernel_rfl) Try.func11 (by kernel_rfl)
    (of_decide_eq_true (by kernel_rfl)) (by unfold Func.isWrapper; first | (rw [if_pos (by decide +kernel)]; kernel_rfl) | (rw [if_neg (by decide +kernel)]; exact ⟨rfl, rfl⟩))
    (fun os started H enc _ => lifted os started H enc)

/-- the statement -/
theorem proved : Rows.TurnFoldsSaid :=
  over
#print axioms proved
end Go.Proofs.Ytjooaieolphomaa.turnFolds
