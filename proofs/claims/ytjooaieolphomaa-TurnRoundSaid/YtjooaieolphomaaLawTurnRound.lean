/-
  The law TurnRound answers true at every input: the program's angle, and its sine and cosine, are told by whole numbers' functions (the engine's runs), and how near these are to the true ones is shown in rational numbers. No condition.
-/
import Derived.Test.YtjooaieolphomaaLawAng
import Derived.OpenShut
namespace Go.Proofs.Ytjooaieolphomaa.turnRound
open Go.ChangeShapes Go.WideShapes Go.ChangeAt Go.RowKit
open Go.Eng Go.Proofs.Ytjooaieolphomaa.lawAng
open Go.Tr (wavY wavX wC wS wcs wss wsq vst fold Rt PiZ farI amt true_ok round_ok back_ok vec_range wsq_ok wcs_ok wss_ok wS_ok wC_ok WZ bd_W tdiv_abs lo up wst_bd b0Z)
set_option linter.unusedVariables false
set_option linter.unusedSimpArgs false
theorem own : ownKnob Try.prog.godebug = none := by kernel_rfl
set_option maxRecDepth 100000
def tree : Eng.T E :=
(.br (.b .lt .i64 (.c 1686629713) (.v 0))
  (.leaf (.c 1))
  (.br (.b .lt .i64 (.v 0) (.c (-1686629713)))
  (.leaf (.c 1))
  (.new 1002 (.w .i64 (.b .padd .i64 (.b .pmul .i64 (.f 5 (.v 0) (.c 0) (.c 0)) (.f 5 (.v 0) (.c 0) (.c 0))) (.b .pmul .i64 (.f 6 (.v 0) (.c 0) (.c 0)) (.f 6 (.v 0) (.c 0) (.c 0)))))
  (.br (.b .lt .i64 (.w .i64 (.b .psub .i64 (.cl 1002 (-9223372036854775808) 9223372036854775807) (.c 1152921504606846976))) (.c 1099511627776))
  (.br (.nt (.b .lt .i64 (.c (-1099511627776)) (.w .i64 (.b .psub .i64 (.cl 1002 (-9223372036854775808) 9223372036854775807) (.c 1152921504606846976)))))
  (.leaf (.c 0))
  (.new 1005 (.b .psub .i64 (.f 4 (.f 5 (.v 0) (.c 0) (.c 0)) (.f 6 (.v 0) (.c 0) (.c 0)) (.c 0)) (.v 0))
  (.br (.b .lt .i64 (.c 1686629713) (.cl 1005 (-4294967295) 4294967295))
  (.br (.b .lt .i64 (.b .psub .i64 (.cl 1005 (-4294967295) 4294967295) (.c 3373259426)) (.c (-1686629713)))
  (.br (.b .lt .i64 (.b .padd .i64 (.b .psub .i64 (.cl 1005 (-4294967295) 4294967295) (.c 3373259426)) (.c 3373259426)) (.c 8192))
  (.br (.b .lt .i64 (.c (-8192)) (.b .padd .i64 (.b .psub .i64 (.cl 1005 (-4294967295) 4294967295) (.c 3373259426)) (.c 3373259426)))
  (.leaf (.c 1))
  (.leaf (.c 0)))
  (.leaf (.c 0)))
  (.br (.b .lt .i64 (.b .psub .i64 (.cl 1005 (-4294967295) 4294967295) (.c 3373259426)) (.c 8192))
  (.br (.b .lt .i64 (.c (-8192)) (.b .psub .i64 (.cl 1005 (-4294967295) 4294967295) (.c 3373259426)))
  (.leaf (.c 1))
  (.leaf (.c 0)))
  (.leaf (.c 0))))
  (.br (.b .lt .i64 (.cl 1005 (-4294967295) 4294967295) (.c (-1686629713)))
  (.br (.b .lt .i64 (.b .padd .i64 (.cl 1005 (-4294967295) 4294967295) (.c 3373259426)) (.c 8192))
  (.br (.b .lt .i64 (.c (-8192)) (.b .padd .i64 (.cl 1005 (-4294967295) 4294967295) (.c 3373259426)))
  (.leaf (.c 1))
  (.leaf (.c 0)))
  (.leaf (.c 0)))
  (.br (.b .lt .i64 (.cl 1005 (-4294967295) 4294967295) (.c 8192))
  (.br (.b .lt .i64 (.c (-8192)) (.cl 1005 (-4294967295) 4294967295))
  (.leaf (.c 1))
  (.leaf (.c 0)))
  (.leaf (.c 0)))))))
  (.leaf (.c 0))))))
def P (a0 : Int) : Prop :=
 (((bool01 (decide (1686629713 < a0))) ≠ 0 →
  (1 : Int) ≠ 0) ∧ ((bool01 (decide (1686629713 < a0))) = 0 →
  (((bool01 (decide (a0 < (-1686629713)))) ≠ 0 →
   (1 : Int) ≠ 0) ∧ ((bool01 (decide (a0 < (-1686629713)))) = 0 →
   ∀ y1002 : Int, y1002 = (IntKind.wrap .i64 (((F' 5 a0 0 0) * (F' 5 a0 0 0)) + ((F' 6 a0 0 0) * (F' 6 a0 0 0)))) → (-9223372036854775808 ≤ y1002 ∧ y1002 ≤ 9223372036854775807) →
   (((bool01 (decide ((IntKind.wrap .i64 (y1002 - 1152921504606846976)) < 1099511627776))) ≠ 0 →
    (((bool01 ((bool01 (decide ((-1099511627776) < (IntKind.wrap .i64 (y1002 - 1152921504606846976))))) == 0)) ≠ 0 →
     (0 : Int) ≠ 0) ∧ ((bool01 ((bool01 (decide ((-1099511627776) < (IntKind.wrap .i64 (y1002 - 1152921504606846976))))) == 0)) = 0 →
     ∀ y1005 : Int, y1005 = ((F' 4 (F' 5 a0 0 0) (F' 6 a0 0 0) 0) - a0) → (-4294967295 ≤ y1005 ∧ y1005 ≤ 4294967295) →
     (((bool01 (decide (1686629713 < y1005))) ≠ 0 →
      (((bool01 (decide ((y1005 - 3373259426) < (-1686629713)))) ≠ 0 →
       (((bool01 (decide (((y1005 - 3373259426) + 3373259426) < 8192))) ≠ 0 →
        (((bool01 (decide ((-8192) < ((y1005 - 3373259426) + 3373259426)))) ≠ 0 →
         (1 : Int) ≠ 0) ∧ ((bool01 (decide ((-8192) < ((y1005 - 3373259426) + 3373259426)))) = 0 →
         (0 : Int) ≠ 0))) ∧ ((bool01 (decide (((y1005 - 3373259426) + 3373259426) < 8192))) = 0 →
        (0 : Int) ≠ 0))) ∧ ((bool01 (decide ((y1005 - 3373259426) < (-1686629713)))) = 0 →
       (((bool01 (decide ((y1005 - 3373259426) < 8192))) ≠ 0 →
        (((bool01 (decide ((-8192) < (y1005 - 3373259426)))) ≠ 0 →
         (1 : Int) ≠ 0) ∧ ((bool01 (decide ((-8192) < (y1005 - 3373259426)))) = 0 →
         (0 : Int) ≠ 0))) ∧ ((bool01 (decide ((y1005 - 3373259426) < 8192))) = 0 →
        (0 : Int) ≠ 0))))) ∧ ((bool01 (decide (1686629713 < y1005))) = 0 →
      (((bool01 (decide (y1005 < (-1686629713)))) ≠ 0 →
       (((bool01 (decide ((y1005 + 3373259426) < 8192))) ≠ 0 →
        (((bool01 (decide ((-8192) < (y1005 + 3373259426)))) ≠ 0 →
         (1 : Int) ≠ 0) ∧ ((bool01 (decide ((-8192) < (y1005 + 3373259426)))) = 0 →
         (0 : Int) ≠ 0))) ∧ ((bool01 (decide ((y1005 + 3373259426) < 8192))) = 0 →
        (0 : Int) ≠ 0))) ∧ ((bool01 (decide (y1005 < (-1686629713)))) = 0 →
       (((bool01 (decide (y1005 < 8192))) ≠ 0 →
        (((bool01 (decide ((-8192) < y1005))) ≠ 0 →
         (1 : Int) ≠ 0) ∧ ((bool01 (decide ((-8192) < y1005))) = 0 →
         (0 : Int) ≠ 0))) ∧ ((bool01 (decide (y1005 < 8192))) = 0 →
        (0 : Int) ≠ 0))))))))) ∧ ((bool01 (decide ((IntKind.wrap .i64 (y1002 - 1152921504606846976)) < 1099511627776))) = 0 →
    (0 : Int) ≠ 0))))))

theorem plain (a0 : Int) : T.holdsP (cxL [(-2147483648, 2147483647)]) (envL [a0]) tree = P a0 := by kernel_rfl
theorem tr {p : Prop} [Decidable p] : bool01 (decide p) ≠ 0 ↔ p := by by_cases h : p <;> simp [bool01, h]
theorem fa {p : Prop} [Decidable p] : bool01 (decide p) = 0 ↔ ¬p := by by_cases h : p <;> simp [bool01, h]
theorem no0 {b : Bool} : bool01 (bool01 b == 0) ≠ 0 ↔ b = false := by cases b <;> simp [bool01]
theorem w64 {x : Int} (l : -9223372036854775808 ≤ x) (u : x ≤ 9223372036854775807) : IntKind.wrap .i64 x = x := wrap_i64 l u
theorem holds (a0 : Int) (l0 : -2147483648 ≤ a0) (u0 : a0 ≤ 2147483647) : P a0 := by
  unfold P
  refine ⟨fun _ => by decide, fun h0 => ⟨fun _ => by decide, fun h1 => ?_⟩⟩
  rw [fa] at h0 h1
  obtain ⟨w5, w6⟩ := wavF a0 (by omega) (by omega) 0
  rw [w5, w6]
  have hP1 : -PiZ ≤ a0 := by unfold PiZ; omega
  have hP2 : a0 ≤ PiZ := by unfold PiZ; omega
  obtain ⟨c1, c2⟩ := round_ok hP1 hP2
  have bd := wst_bd (b0Z a0) 28 (by omega)
  have bY : -1073741867 ≤ wavY a0 ∧ wavY a0 ≤ 1073741867 := ⟨bd.2.2.1, bd.2.2.2⟩
  have bX : -1073741867 ≤ wavX a0 ∧ wavX a0 ≤ 1073741867 := by unfold wavX; split <;> omega
  have hz : wavY a0 ≠ 0 ∨ wavX a0 ≠ 0 := by
    rcases Int.decEq (wavY a0) 0 with h | h
    · exact .inl h
    · right; intro hx; rw [h, hx] at c2; omega
  have hA : F' 4 (wavY a0) (wavX a0) 0 = angZ (wavY a0) (wavX a0) := angF _ _ (by omega) (by omega) (by omega) (by omega) hz 0
  have hV := z_ok (y := wavY a0) (x := wavX a0) (by omega) (by omega) (by omega) (by omega) hz
  have hp : (1 : Int) ≤ 2 ^ lvl (gZ (wavY a0) (wavX a0)) := Int.pow_pos (n := 2) (by decide)
  obtain ⟨k1, k2⟩ := back_ok (a := a0) (x0 := x0Z (wavY a0) (wavX a0)) (y0 := y0Z (wavY a0) (wavX a0)) hP1 hP2 hp rfl rfl hV.h1 hV.h2
  rw [hA]
  have eA : fold (vst (x0Z (wavY a0) (wavX a0)) (y0Z (wavY a0) (wavX a0)) 28).2.2 (amt (wavX a0)) (amt (wavY a0)) (wavX a0) (wavY a0) = angZ (wavY a0) (wavX a0) := rfl
  rw [eA] at k1 k2
  generalize angZ (wavY a0) (wavX a0) = b at *
  generalize wavY a0 * wavY a0 + wavX a0 * wavX a0 = s at *
  clear hA eA w5 w6 hV hp hz
  intro y1002 e1002 _
  rw [w64 (by omega) (by omega)] at e1002
  subst e1002
  rw [w64 (x := y1002 - 1152921504606846976) (by omega) (by omega)]
  refine ⟨fun _ => ⟨fun h => ?_, fun _ => ?_⟩, fun h => absurd h (tr.2 (by omega))⟩
  · rw [no0] at h
    have : ¬ (-1099511627776 < y1002 - 1152921504606846976) := by simpa using h
    omega
  · intro y1005 e1005 _
    subst e1005
    unfold farI PiZ at k1 k2
    simp only at k1 k2
    simp only [tr, fa]
    generalize b - a0 = d at *
    split at k1
    · split at k1
      all_goals (simp_all; try omega)
    · split at k1
      all_goals (simp_all; try omega)

theorem ran : T.beq (projB (runL [(-2147483648, 2147483647)] 15 [.int .i32 (.v 0)] ⟨[], []⟩)) tree = true := by kernel_rfl
theorem fineT : (Nat.ble (cxL [(-2147483648, 2147483647)]).Γ.length 1000 && T.fine 1000 tree && SV.vbL 1000 [.int .i32 (.v 0)]) = true := by kernel_rfl
theorem tidyT : T.tidy (cxL [(-2147483648, 2147483647)]) [] tree = true := by kernel_rfl
theorem walk (a0 : Int) (w0 : (Lit.int .i32 a0).wf = true) (w : World) :
    Calls Try.prog 15 #[.int .i32 a0] w fun e w' => e = .returned (.bool true) ∧ Below w.heap.size w w' :=
  truthP_of (runL_ok [(-2147483648, 2147483647)]) (ρ := envL [a0]) (envL_ok (bnd_cons (wf_bd w0) (bnd_nil _))) (f := 15) (args := [.int .i32 (.v 0)]) (t := tree) ran (by rw [fineT, tidyT]; rfl)
    (by rw [plain]; exact holds a0 (wf_bd w0).1 (wf_bd w0).2) rfl w

/-! ### the row's step -/
set_option maxRecDepth 100000
theorem lifted (os : Os) (started : os.Started) (H : Type) (enc : TypeId × Value → H) :
    ReturnsInHanded {} Try.checked os 15 .any (Rows.turnRoundSpec.pre6 enc Try.prog Try.f15 Rows.turnRoundRow.domain false) (Rows.turnRoundSpec.post enc Try.prog Try.f15 false true false false) := by
  refine returnsInHanded_of_change (C := Try.checked) own started (by kernel_rfl) Try.func15
    (ChangeSpec.witness6 (enc := enc) (C := Try.checked) false ⟨#[], #[.int .i32 0], []⟩ 8 (by kernel_rfl) (by kernel_rfl) (by kernel_rfl) (by kernel_rfl)) ?_
  intro W base args ds gs before hval0 hW hcnd _
  have hval : ∀ (j : Nat) t v, Try.f15.params[j]? = some t → args[j]? = some v → Value.okWide Try.prog W .any base t v := hval0
  have hW' := hW
  obtain ⟨p, q, hA0, hV, rfl, hfz, hnd⟩ := hW
  have hA : DataW.TrodAll enc Try.prog W 0 (fun _ => true) true Try.f15.params.toList args.toList ds p := hA0
  rw [Try.params15] at hA hval
  obtain ⟨v0, vs0, d0, ds0, p0, q0, hargs, rfl, rfl, h0, r0⟩ := trodAll_cons hA
  obtain ⟨rfl, rfl, rfl⟩ := trodAll_nil r0
  obtain rfl : args = #[v0] := by cases args; simp_all
  obtain ⟨rfl, rfl⟩ := trodVars_none hV
  obtain ⟨a0, rfl, rfl, rfl, w0⟩ := open_int Try.underlying21 (hval 0 21 v0 rfl rfl) h0
  clear hA0 hval0
  simp only [List.append_nil] at hW'
  refine (walk a0 w0 W).mono fun e W' ⟨he, hg⟩ => ?_
  subst he
  exact ⟨_, rfl, post_below (pa := []) (pv := []) hW' hg (fun _ _ _ => (trodAll_cons_mk (shut_bool Try.underlying4 _) trodAll_mk0)) (fun sp _ => (trodAll_cons_mk (shut_int Try.underlying21 w0) trodAll_mk0)) (fun _ _ => rfl) rfl
    (ok_one (by kernel_rfl) rfl (okWide_bool_mk Try.underlying4 _))⟩

theorem over : Rows.turnRoundRow.holds Try.pinned (OpenSpec.ofChange Rows.turnRoundSpec) :=
  OpenClaim.holds_of_wide 15 Try.f15 rfl rfl rfl rfl rfl rfl rfl ⟨rfl, rfl, rfl, rfl, rfl⟩ rfl rfl rfl rfl rfl (by kernel_rfl) Try.func15 (by kernel_rfl)
    (of_decide_eq_true (by kernel_rfl)) (by unfold Func.isWrapper; first | (rw [if_pos (by decide +kernel)]; kernel_rfl) | (rw [if_neg (by decide +kernel)]; exact ⟨rfl, rfl⟩))
    (fun os started H enc _ => lifted os started H enc)

/-- the statement -/
theorem proved : Rows.TurnRoundSaid :=
  over
#print axioms proved
end Go.Proofs.Ytjooaieolphomaa.turnRound
