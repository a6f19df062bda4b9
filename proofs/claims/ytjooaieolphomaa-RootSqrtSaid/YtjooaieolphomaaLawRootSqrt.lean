/-
  The law RootSqrt answers true at every input: the law's function is run by the engine (a program's symbolic run, proved sound), and the tree of its answers, as a plain statement, is shown to hold. No condition.
-/
import Derived.Test.YtjooaieolphomaaRows
import Derived.Test.YtjooaieolphomaaTmAa
import Derived.Test.YtjooaieolphomaaEngT
import Derived.Test.YtjooaieolphomaaPlD
import Derived.WalkKit
import Derived.ProofKit
import Derived.OpenShut
namespace Go.Proofs.Ytjooaieolphomaa.rootSqrt
open Go.ChangeShapes Go.WideShapes Go.ChangeAt Go.RowKit
open Go.Eng
set_option linter.unusedVariables false
set_option linter.unusedSimpArgs false

theorem own : ownKnob Try.prog.godebug = none := by kernel_rfl

set_option maxRecDepth 100000 in
def tree : T E :=
(.br (.b .lt .i64 (.v 0) (.c 1))
  (.leaf (.c 1))
  (.new 1001 (.b .psub .i64 (.c 32) (.f 0 (.w .u32 (.v 0)) (.c 0) (.c 0)))
  (.new 1002 (.b .shr .u32 (.b .shl .u32 (.w .u32 (.v 0)) (.b .and .i32 (.b .and .i32 (.cl 1001 0 32) (.c 30)) (.c 31))) (.c 2))
  (.new 1003 (.b .min .i64 (.b .psub .i64 (.c 1184766729) (.f 1 (.c 715827883) (.cl 1002 0 1073741823) (.c 0))) (.c 2147483647))
  (.new 1004 (.w .i32 (.b .shl .u32 (.w .u32 (.f 1 (.cl 1002 0 1073741823) (.f 1 (.cl 1003 (-962716918) 2147483647) (.cl 1003 (-962716918) 2147483647) (.c 0)) (.c 0))) (.c 2)))
  (.new 1005 (.f 1 (.cl 1003 (-962716918) 2147483647) (.b .min .i64 (.b .psub .i64 (.c 1073741824) (.cl 1004 (-2147483648) 2147483647)) (.c 2147483647)) (.c 0))
  (.new 1006 (.b .min .i64 (.b .padd .i64 (.cl 1003 (-962716918) 2147483647) (.b .shr .i32 (.cl 1005 (-2147483648) 2147483647) (.c 1))) (.c 2147483647))
  (.new 1007 (.w .i32 (.b .shl .u32 (.w .u32 (.f 1 (.cl 1002 0 1073741823) (.f 1 (.cl 1006 (-2036458742) 2147483647) (.cl 1006 (-2036458742) 2147483647) (.c 0)) (.c 0))) (.c 2)))
  (.new 1008 (.f 1 (.cl 1006 (-2036458742) 2147483647) (.b .min .i64 (.b .psub .i64 (.c 1073741824) (.cl 1007 (-2147483648) 2147483647)) (.c 2147483647)) (.c 0))
  (.new 1009 (.b .min .i64 (.b .max .i64 (.b .padd .i64 (.cl 1006 (-2036458742) 2147483647) (.b .shr .i32 (.cl 1008 (-2147483648) 2147483647) (.c 1))) (.c (-2147483648))) (.c 2147483647))
  (.new 1010 (.w .i32 (.b .shl .u32 (.w .u32 (.f 1 (.cl 1002 0 1073741823) (.f 1 (.cl 1009 (-2147483648) 2147483647) (.cl 1009 (-2147483648) 2147483647) (.c 0)) (.c 0))) (.c 2)))
  (.new 1011 (.f 1 (.cl 1009 (-2147483648) 2147483647) (.b .min .i64 (.b .psub .i64 (.c 1073741824) (.cl 1010 (-2147483648) 2147483647)) (.c 2147483647)) (.c 0))
  (.new 1012 (.b .min .i64 (.b .max .i64 (.b .padd .i64 (.cl 1009 (-2147483648) 2147483647) (.b .shr .i32 (.cl 1011 (-2147483648) 2147483647) (.c 1))) (.c (-2147483648))) (.c 2147483647))
  (.new 1013 (.w .i32 (.b .shl .u32 (.w .u32 (.f 1 (.cl 1002 0 1073741823) (.f 1 (.cl 1012 (-2147483648) 2147483647) (.cl 1012 (-2147483648) 2147483647) (.c 0)) (.c 0))) (.c 2)))
  (.new 1014 (.f 1 (.cl 1012 (-2147483648) 2147483647) (.b .min .i64 (.b .psub .i64 (.c 1073741824) (.cl 1013 (-2147483648) 2147483647)) (.c 2147483647)) (.c 0))
  (.new 1015 (.b .min .i64 (.b .max .i64 (.b .padd .i64 (.cl 1012 (-2147483648) 2147483647) (.b .shr .i32 (.cl 1014 (-2147483648) 2147483647) (.c 1))) (.c (-2147483648))) (.c 2147483647))
  (.new 1016 (.w .i32 (.b .shl .u32 (.w .u32 (.f 1 (.v 0) (.cl 1015 (-2147483648) 2147483647) (.c 0))) (.b .and .i32 (.b .shr .u32 (.b .and .i32 (.cl 1001 0 32) (.c 30)) (.c 1)) (.c 31))))
  (.br (.b .lt .i64 (.b .psub .i64 (.b .pmul .i64 (.cl 1016 (-2147483648) 2147483647) (.cl 1016 (-2147483648) 2147483647)) (.b .shl .i64 (.v 0) (.c 30))) (.c 0))
  (.new 1018 (.b .psub .i64 (.c 0) (.b .psub .i64 (.b .pmul .i64 (.cl 1016 (-2147483648) 2147483647) (.cl 1016 (-2147483648) 2147483647)) (.b .shl .i64 (.v 0) (.c 30))))
  (.br (.b .lt .i64 (.c 0) (.cl 1016 (-2147483648) 2147483647))
  (.br (.b .lt .i64 (.cl 1018 (-6917529027641081856) 6917529026567340032) (.b .padd .i64 (.b .pmul .i64 (.c 64) (.v 0)) (.c 8589934592)))
  (.leaf (.c 1))
  (.leaf (.c 0)))
  (.leaf (.c 0))))
  (.br (.b .lt .i64 (.c 0) (.cl 1016 (-2147483648) 2147483647))
  (.br (.b .lt .i64 (.b .psub .i64 (.b .pmul .i64 (.cl 1016 (-2147483648) 2147483647) (.cl 1016 (-2147483648) 2147483647)) (.b .shl .i64 (.v 0) (.c 30))) (.b .padd .i64 (.b .pmul .i64 (.c 64) (.v 0)) (.c 8589934592)))
  (.leaf (.c 1))
  (.leaf (.c 0)))
  (.leaf (.c 0)))))))))))))))))))))

def P (a0 : Int) : Prop :=
 (((bool01 (decide (a0 < 1))) ≠ 0 →
  (1 : Int) ≠ 0) ∧ ((bool01 (decide (a0 < 1))) = 0 →
  ∀ y1001 : Int, y1001 = (32 - (blen (IntKind.wrap .u32 a0))) → (0 ≤ y1001 ∧ y1001 ≤ 32) →
  ∀ y1002 : Int, y1002 = (shrZ .u32 (shlZ .u32 (IntKind.wrap .u32 a0) (band .i32 (band .i32 y1001 30) 31)) 2) → (0 ≤ y1002 ∧ y1002 ≤ 1073741823) →
  ∀ y1003 : Int, y1003 = (minZ (1184766729 - (mulqZ 715827883 y1002)) 2147483647) → (-962716918 ≤ y1003 ∧ y1003 ≤ 2147483647) →
  ∀ y1004 : Int, y1004 = (IntKind.wrap .i32 (shlZ .u32 (IntKind.wrap .u32 (mulqZ y1002 (mulqZ y1003 y1003))) 2)) → (-2147483648 ≤ y1004 ∧ y1004 ≤ 2147483647) →
  ∀ y1005 : Int, y1005 = (mulqZ y1003 (minZ (1073741824 - y1004) 2147483647)) → (-2147483648 ≤ y1005 ∧ y1005 ≤ 2147483647) →
  ∀ y1006 : Int, y1006 = (minZ (y1003 + (shrZ .i32 y1005 1)) 2147483647) → (-2036458742 ≤ y1006 ∧ y1006 ≤ 2147483647) →
  ∀ y1007 : Int, y1007 = (IntKind.wrap .i32 (shlZ .u32 (IntKind.wrap .u32 (mulqZ y1002 (mulqZ y1006 y1006))) 2)) → (-2147483648 ≤ y1007 ∧ y1007 ≤ 2147483647) →
  ∀ y1008 : Int, y1008 = (mulqZ y1006 (minZ (1073741824 - y1007) 2147483647)) → (-2147483648 ≤ y1008 ∧ y1008 ≤ 2147483647) →
  ∀ y1009 : Int, y1009 = (sat32 (y1006 + (shrZ .i32 y1008 1))) → (-2147483648 ≤ y1009 ∧ y1009 ≤ 2147483647) →
  ∀ y1010 : Int, y1010 = (IntKind.wrap .i32 (shlZ .u32 (IntKind.wrap .u32 (mulqZ y1002 (mulqZ y1009 y1009))) 2)) → (-2147483648 ≤ y1010 ∧ y1010 ≤ 2147483647) →
  ∀ y1011 : Int, y1011 = (mulqZ y1009 (minZ (1073741824 - y1010) 2147483647)) → (-2147483648 ≤ y1011 ∧ y1011 ≤ 2147483647) →
  ∀ y1012 : Int, y1012 = (sat32 (y1009 + (shrZ .i32 y1011 1))) → (-2147483648 ≤ y1012 ∧ y1012 ≤ 2147483647) →
  ∀ y1013 : Int, y1013 = (IntKind.wrap .i32 (shlZ .u32 (IntKind.wrap .u32 (mulqZ y1002 (mulqZ y1012 y1012))) 2)) → (-2147483648 ≤ y1013 ∧ y1013 ≤ 2147483647) →
  ∀ y1014 : Int, y1014 = (mulqZ y1012 (minZ (1073741824 - y1013) 2147483647)) → (-2147483648 ≤ y1014 ∧ y1014 ≤ 2147483647) →
  ∀ y1015 : Int, y1015 = (sat32 (y1012 + (shrZ .i32 y1014 1))) → (-2147483648 ≤ y1015 ∧ y1015 ≤ 2147483647) →
  ∀ y1016 : Int, y1016 = (IntKind.wrap .i32 (shlZ .u32 (IntKind.wrap .u32 (mulqZ a0 y1015)) (band .i32 (shrZ .u32 (band .i32 y1001 30) 1) 31))) → (-2147483648 ≤ y1016 ∧ y1016 ≤ 2147483647) →
  (((bool01 (decide (((y1016 * y1016) - (shlZ .i64 a0 30)) < 0))) ≠ 0 →
   ∀ y1018 : Int, y1018 = (0 - ((y1016 * y1016) - (shlZ .i64 a0 30))) → (-6917529027641081856 ≤ y1018 ∧ y1018 ≤ 6917529026567340032) →
   (((bool01 (decide (0 < y1016))) ≠ 0 →
    (((bool01 (decide (y1018 < ((64 * a0) + 8589934592)))) ≠ 0 →
     (1 : Int) ≠ 0) ∧ ((bool01 (decide (y1018 < ((64 * a0) + 8589934592)))) = 0 →
     (0 : Int) ≠ 0))) ∧ ((bool01 (decide (0 < y1016))) = 0 →
    (0 : Int) ≠ 0))) ∧ ((bool01 (decide (((y1016 * y1016) - (shlZ .i64 a0 30)) < 0))) = 0 →
   (((bool01 (decide (0 < y1016))) ≠ 0 →
    (((bool01 (decide (((y1016 * y1016) - (shlZ .i64 a0 30)) < ((64 * a0) + 8589934592)))) ≠ 0 →
     (1 : Int) ≠ 0) ∧ ((bool01 (decide (((y1016 * y1016) - (shlZ .i64 a0 30)) < ((64 * a0) + 8589934592)))) = 0 →
     (0 : Int) ≠ 0))) ∧ ((bool01 (decide (0 < y1016))) = 0 →
    (0 : Int) ≠ 0))))))

theorem plain (a0 : Int) : T.holdsP (cxOf 2 [(-2147483648, 2147483647)]) (envOf [a0]) tree = P a0 := by kernel_rfl

theorem holds (a0 : Int) (l0 : -2147483648 ≤ a0) (u0 : a0 ≤ 2147483647) : P a0 := by
  unfold P
  refine ⟨fun _ => by decide, fun h0 => ?_⟩
  have h1 : 1 ≤ a0 := by rw [b01_eq] at h0; omega
  intro y1 e1 _ y2 e2 _ y3 e3 b3 y4 e4 _ y5 e5 b5 y6 e6 _ y7 e7 _ y8 e8 _ y9 e9 _ y10 e10 _ y11 e11 _ y12 e12 _ y13 e13 _ y14 e14 _ y15 e15 _ y16 e16 _
  have hz := steps e3 b3.1 e4 e5 b5 e6 e7 e8 e9 e10 e11 e12 e13 e14 e15
  obtain ⟨h, hh, q1, q2, q3, q4, q5⟩ := level h1 u0
  rw [← e1] at q1
  have hX : ∃ X, X = a0 * 2 ^ (2 * h) := ⟨_, rfl⟩
  obtain ⟨X, hX⟩ := hX
  rw [q1, q2, q3, ← hX] at e2
  rw [← hX] at q4 q5
  have e2' : y2 = X / 4 := e2.trans (shr_eq (k := .u32) (n := 2) (by decide) X)
  obtain ⟨z0, z1, z2, v1, v2⟩ := root_near q4 q5 e2' hz
  have hQ : ∃ Q : Int, Q = 2 ^ h := ⟨_, rfl⟩
  obtain ⟨Q, hQ⟩ := hQ
  obtain ⟨r1, r2, r3, r4, r5⟩ := root_scale h1 u0 hQ hX q5 z0 (by omega) v1 v2
  obtain ⟨s, hs, s1, s2⟩ := scale_near (v := a0) (z := y15) hh hQ (by omega) r2
  have hsh : band .i32 (shrZ .u32 (2 * (h : Int)) 1) 31 = h := by
    rw [half_eq _ (by decide), show 2 * (h : Int) / 2 = h by omega]
    exact band31' ⟨h, by omega⟩
  rw [q1, hsh, hs] at e16
  obtain ⟨k1, k2, k3⟩ := sqrt_near hh h1 u0 hQ hX q5 z0 (by omega) v1 v2 s1 s2
  have hsl : shlZ .i64 a0 30 = a0 * 1073741824 := by
    have := shl_eq (k := .i64) (n := 30) (by decide) a0
    rw [show ((30 : Nat) : Int) = 30 from rfl] at this
    rw [this]
    exact wrap_in _ _ (by simp [klo]; omega) (by simp [khi]; omega)
  rw [hsl, e16]
  generalize s * s - a0 * 1073741824 = far at *
  simp only [b01_ne, b01_eq]
  refine ⟨fun hc y18 e18 _ => ⟨fun _ => ⟨fun _ => by decide, fun hd => ?_⟩, fun hd => ?_⟩, fun hc => ⟨fun _ => ⟨fun _ => by decide, fun hd => ?_⟩, fun hd => ?_⟩⟩ <;> omega

theorem walk (a0 : Int) (w0 : (Lit.int .i32 a0).wf = true) (w : World) :
    Calls Try.prog 5 #[.int .i32 a0] w fun e w' => e = .returned (.bool true) ∧ Below w.heap.size w w' :=
  truthP_of (runOf_ok smAa_ok 2 [(-2147483648, 2147483647)]) (envOf_ok (bnd_cons (wf_bd w0) (bnd_nil _))) (f := 5) (args := [.int .i32 (.v 0)]) (t := tree) (by kernel_rfl) (by kernel_rfl)
    (by rw [plain]; exact holds a0 (wf_bd w0).1 (wf_bd w0).2) rfl w

/-! ### the row's step -/
set_option maxRecDepth 100000 in
theorem lifted (os : Os) (started : os.Started) (H : Type) (enc : TypeId × Value → H) :
    ReturnsInHanded {} Try.checked os 5 .any (Rows.rootSqrtSpec.pre6 enc Try.prog Try.f5 Rows.rootSqrtRow.domain false) (Rows.rootSqrtSpec.post enc Try.prog Try.f5 false true false false) := by
  refine returnsInHanded_of_change (C := Try.checked) own started (by kernel_rfl) Try.func5
    (ChangeSpec.witness6 (enc := enc) (C := Try.checked) false ⟨#[], #[.int .i32 0], []⟩ 8 (by kernel_rfl) (by kernel_rfl) (by kernel_rfl) (by kernel_rfl)) ?_
  intro W base args ds gs before hval0 hW hcnd _
  have hval : ∀ (j : Nat) t v, Try.f5.params[j]? = some t → args[j]? = some v → Value.okWide Try.prog W .any base t v := hval0
  have hW' := hW
  obtain ⟨p, q, hA0, hV, rfl, hfz, hnd⟩ := hW
  have hA : DataW.TrodAll enc Try.prog W 0 (fun _ => true) true Try.f5.params.toList args.toList ds p := hA0
  rw [Try.params5] at hA hval
  obtain ⟨v0, vs0, d0, ds0, p0, q0, hargs, rfl, rfl, h0, r0⟩ := trodAll_cons hA
  obtain ⟨rfl, rfl, rfl⟩ := trodAll_nil r0
  obtain rfl : args = #[v0] := by cases args; simp_all
  obtain ⟨rfl, rfl⟩ := trodVars_none hV
  obtain ⟨a0, rfl, rfl, rfl, w0⟩ := open_int Try.underlying21 (hval 0 21 v0 rfl rfl) h0
  clear hA0 hval0
  simp only [List.append_nil] at hW'
  refine (walk a0 w0 W).mono fun e W' ⟨he, hg⟩ => ?_
  subst he
  exact ⟨_, rfl, post_below (pa := []) (pv := []) hW' hg (fun _ _ _ => (trodAll_cons_mk (shut_bool Try.underlying4 _) trodAll_mk0)) (fun sp _ => (trodAll_cons_mk (shut_int Try.underlying21 w0) trodAll_mk0)) (fun _ _ => rfl) rfl
    (ok_one (by kernel_rfl) rfl (okWide_bool_mk Try.underlying4 _))⟩

theorem over : Rows.rootSqrtRow.holds Try.pinned (OpenSpec.ofChange Rows.rootSqrtSpec) :=
  OpenClaim.holds_of_wide 5 Try.f5 rfl rfl rfl rfl rfl rfl rfl ⟨rfl, rfl, rfl, rfl, rfl⟩ rfl rfl rfl rfl rfl (by kernel_rfl) Try.func5 (by kernel_rfl)
    (of_decide_eq_true (by kernel_rfl)) (by unfold Func.isWrapper; first | (rw [if_pos (by decide +kernel)]; kernel_rfl) | (rw [if_neg (by decide +kernel)]; exact ⟨rfl, rfl⟩))
    (fun os started H enc _ => lifted os started H enc)

/-- the statement -/
theorem proved : Rows.RootSqrtSaid :=
  over
#print axioms proved
end Go.Proofs.Ytjooaieolphomaa.rootSqrt
