/-
  The law RootTrue answers true at every input: the law's function is run by the engine (a program's symbolic run, proved sound), and the tree of its answers, as a plain statement, is shown to hold. No condition.
-/
import Derived.Test.YtjooaieolphomaaRows
import Derived.Test.YtjooaieolphomaaTmAa
import Derived.Test.YtjooaieolphomaaEngT
import Derived.Test.YtjooaieolphomaaPlE
import Derived.WalkKit
import Derived.ProofKit
import Derived.OpenShut
namespace Go.Proofs.Ytjooaieolphomaa.rootTrue
open Go.ChangeShapes Go.WideShapes Go.ChangeAt Go.RowKit
open Go.Eng
set_option linter.unusedVariables false
set_option linter.unusedSimpArgs false

theorem own : ownKnob Try.prog.godebug = none := by kernel_rfl

set_option maxRecDepth 100000 in
def tree : T E :=
(.br (.b .lt .i64 (.v 0) (.c 1))
  (.leaf (.c 1))
  (.new 1001 (.b .psub .i64 (.c 32) (.f 0 (.w .u32 (.v 0)) (.c 0) (.c 0)))
  (.new 1002 (.b .shr .u32 (.b .shl .u32 (.w .u32 (.v 0)) (.b .and .i32 (.b .and .i32 (.cl 1001 0 32) (.c 30)) (.c 31))) (.c 2))
  (.new 1003 (.b .min .i64 (.b .psub .i64 (.c 1184766729) (.f 1 (.c 715827883) (.cl 1002 0 1073741823) (.c 0))) (.c 2147483647))
  (.new 1004 (.w .i32 (.b .shl .u32 (.w .u32 (.f 1 (.cl 1002 0 1073741823) (.f 1 (.cl 1003 (-962716918) 2147483647) (.cl 1003 (-962716918) 2147483647) (.c 0)) (.c 0))) (.c 2)))
  (.new 1005 (.f 1 (.cl 1003 (-962716918) 2147483647) (.b .min .i64 (.b .psub .i64 (.c 1073741824) (.cl 1004 (-2147483648) 2147483647)) (.c 2147483647)) (.c 0))
  (.new 1006 (.b .min .i64 (.b .padd .i64 (.cl 1003 (-962716918) 2147483647) (.b .shr .i32 (.cl 1005 (-2147483648) 2147483647) (.c 1))) (.c 2147483647))
  (.new 1007 (.w .i32 (.b .shl .u32 (.w .u32 (.f 1 (.cl 1002 0 1073741823) (.f 1 (.cl 1006 (-2036458742) 2147483647) (.cl 1006 (-2036458742) 2147483647) (.c 0)) (.c 0))) (.c 2)))
  (.new 1008 (.f 1 (.cl 1006 (-2036458742) 2147483647) (.b .min .i64 (.b .psub .i64 (.c 1073741824) (.cl 1007 (-2147483648) 2147483647)) (.c 2147483647)) (.c 0))
  (.new 1009 (.b .min .i64 (.b .max .i64 (.b .padd .i64 (.cl 1006 (-2036458742) 2147483647) (.b .shr .i32 (.cl 1008 (-2147483648) 2147483647) (.c 1))) (.c (-2147483648))) (.c 2147483647))
  (.new 1010 (.w .i32 (.b .shl .u32 (.w .u32 (.f 1 (.cl 1002 0 1073741823) (.f 1 (.cl 1009 (-2147483648) 2147483647) (.cl 1009 (-2147483648) 2147483647) (.c 0)) (.c 0))) (.c 2)))
  (.new 1011 (.f 1 (.cl 1009 (-2147483648) 2147483647) (.b .min .i64 (.b .psub .i64 (.c 1073741824) (.cl 1010 (-2147483648) 2147483647)) (.c 2147483647)) (.c 0))
  (.new 1012 (.b .min .i64 (.b .max .i64 (.b .padd .i64 (.cl 1009 (-2147483648) 2147483647) (.b .shr .i32 (.cl 1011 (-2147483648) 2147483647) (.c 1))) (.c (-2147483648))) (.c 2147483647))
  (.new 1013 (.w .i32 (.b .shl .u32 (.w .u32 (.f 1 (.cl 1002 0 1073741823) (.f 1 (.cl 1012 (-2147483648) 2147483647) (.cl 1012 (-2147483648) 2147483647) (.c 0)) (.c 0))) (.c 2)))
  (.new 1014 (.f 1 (.cl 1012 (-2147483648) 2147483647) (.b .min .i64 (.b .psub .i64 (.c 1073741824) (.cl 1013 (-2147483648) 2147483647)) (.c 2147483647)) (.c 0))
  (.new 1015 (.b .min .i64 (.b .max .i64 (.b .padd .i64 (.cl 1012 (-2147483648) 2147483647) (.b .shr .i32 (.cl 1014 (-2147483648) 2147483647) (.c 1))) (.c (-2147483648))) (.c 2147483647))
  (.br (.b .lt .i64 (.cl 1015 (-2147483648) 2147483647) (.c 268435456))
  (.leaf (.c 0))
  (.br (.b .lt .i64 (.c 1073742848) (.cl 1015 (-2147483648) 2147483647))
  (.leaf (.c 0))
  (.new 1018 (.b .pmul .i64 (.c 2) (.b .shr .u32 (.b .and .i32 (.cl 1001 0 32) (.c 30)) (.c 1)))
  (.new 1019 (.b .and .u64 (.w .u64 (.b .pmul .i64 (.cl 1015 (-2147483648) 2147483647) (.cl 1015 (-2147483648) 2147483647))) (.c 4294967295))
  (.new 1020 (.b .shr .u64 (.w .u64 (.b .pmul .i64 (.cl 1015 (-2147483648) 2147483647) (.cl 1015 (-2147483648) 2147483647))) (.c 32))
  (.new 1021 (.b .and .u64 (.b .shl .u64 (.w .u64 (.v 0)) (.cl 1018 0 30)) (.c 4294967295))
  (.new 1022 (.b .shr .u64 (.b .shl .u64 (.w .u64 (.v 0)) (.cl 1018 0 30)) (.c 32))
  (.new 1023 (.b .padd .i64 (.b .pmul .i64 (.cl 1020 0 4294967295) (.cl 1021 0 4294967295)) (.b .shr .u64 (.b .pmul .i64 (.cl 1019 0 4294967295) (.cl 1021 0 4294967295)) (.c 32)))
  (.new 1024 (.b .shr .u64 (.b .padd .i64 (.b .and .u64 (.cl 1023 0 18446744069414584319) (.c 4294967295)) (.b .pmul .i64 (.cl 1019 0 4294967295) (.cl 1022 0 4294967295))) (.c 32))
  (.new 1025 (.b .padd .i64 (.b .padd .i64 (.b .pmul .i64 (.cl 1020 0 4294967295) (.cl 1022 0 4294967295)) (.b .shr .u64 (.cl 1023 0 18446744069414584319) (.c 32))) (.cl 1024 0 4294967295))
  (.new 1026 (.w .u64 (.b .pmul .i64 (.w .u64 (.b .pmul .i64 (.cl 1015 (-2147483648) 2147483647) (.cl 1015 (-2147483648) 2147483647))) (.b .shl .u64 (.w .u64 (.v 0)) (.cl 1018 0 30))))
  (.br (.b .le .i64 (.c 67108864) (.cl 1025 0 18446744073709551614))
  (.br (.b .lt .i64 (.w .u64 (.b .psub .i64 (.cl 1025 0 18446744073709551614) (.c 67108864))) (.c 4))
  (.leaf (.c 1))
  (.leaf (.c 0)))
  (.br (.b .le .i64 (.w .u64 (.b .psub .i64 (.c 67108864) (.cl 1025 0 18446744073709551614))) (.c 4))
  (.br (.b .lt .i64 (.w .u64 (.b .psub .i64 (.c 67108864) (.cl 1025 0 18446744073709551614))) (.c 4))
  (.leaf (.c 1))
  (.br (.b .lt .i64 (.c 0) (.cl 1026 0 18446744073709551615))
  (.leaf (.c 1))
  (.leaf (.c 0))))
  (.leaf (.c 0)))))))))))))))))))))))))))))))

def P (a0 : Int) : Prop :=
 (((bool01 (decide (a0 < 1))) ≠ 0 →
  (1 : Int) ≠ 0) ∧ ((bool01 (decide (a0 < 1))) = 0 →
  ∀ y1001 : Int, y1001 = (32 - (blen (IntKind.wrap .u32 a0))) → (0 ≤ y1001 ∧ y1001 ≤ 32) →
  ∀ y1002 : Int, y1002 = (shrZ .u32 (shlZ .u32 (IntKind.wrap .u32 a0) (band .i32 (band .i32 y1001 30) 31)) 2) → (0 ≤ y1002 ∧ y1002 ≤ 1073741823) →
  ∀ y1003 : Int, y1003 = (minZ (1184766729 - (mulqZ 715827883 y1002)) 2147483647) → (-962716918 ≤ y1003 ∧ y1003 ≤ 2147483647) →
  ∀ y1004 : Int, y1004 = (IntKind.wrap .i32 (shlZ .u32 (IntKind.wrap .u32 (mulqZ y1002 (mulqZ y1003 y1003))) 2)) → (-2147483648 ≤ y1004 ∧ y1004 ≤ 2147483647) →
  ∀ y1005 : Int, y1005 = (mulqZ y1003 (minZ (1073741824 - y1004) 2147483647)) → (-2147483648 ≤ y1005 ∧ y1005 ≤ 2147483647) →
  ∀ y1006 : Int, y1006 = (minZ (y1003 + (shrZ .i32 y1005 1)) 2147483647) → (-2036458742 ≤ y1006 ∧ y1006 ≤ 2147483647) →
  ∀ y1007 : Int, y1007 = (IntKind.wrap .i32 (shlZ .u32 (IntKind.wrap .u32 (mulqZ y1002 (mulqZ y1006 y1006))) 2)) → (-2147483648 ≤ y1007 ∧ y1007 ≤ 2147483647) →
  ∀ y1008 : Int, y1008 = (mulqZ y1006 (minZ (1073741824 - y1007) 2147483647)) → (-2147483648 ≤ y1008 ∧ y1008 ≤ 2147483647) →
  ∀ y1009 : Int, y1009 = (sat32 (y1006 + (shrZ .i32 y1008 1))) → (-2147483648 ≤ y1009 ∧ y1009 ≤ 2147483647) →
  ∀ y1010 : Int, y1010 = (IntKind.wrap .i32 (shlZ .u32 (IntKind.wrap .u32 (mulqZ y1002 (mulqZ y1009 y1009))) 2)) → (-2147483648 ≤ y1010 ∧ y1010 ≤ 2147483647) →
  ∀ y1011 : Int, y1011 = (mulqZ y1009 (minZ (1073741824 - y1010) 2147483647)) → (-2147483648 ≤ y1011 ∧ y1011 ≤ 2147483647) →
  ∀ y1012 : Int, y1012 = (sat32 (y1009 + (shrZ .i32 y1011 1))) → (-2147483648 ≤ y1012 ∧ y1012 ≤ 2147483647) →
  ∀ y1013 : Int, y1013 = (IntKind.wrap .i32 (shlZ .u32 (IntKind.wrap .u32 (mulqZ y1002 (mulqZ y1012 y1012))) 2)) → (-2147483648 ≤ y1013 ∧ y1013 ≤ 2147483647) →
  ∀ y1014 : Int, y1014 = (mulqZ y1012 (minZ (1073741824 - y1013) 2147483647)) → (-2147483648 ≤ y1014 ∧ y1014 ≤ 2147483647) →
  ∀ y1015 : Int, y1015 = (sat32 (y1012 + (shrZ .i32 y1014 1))) → (-2147483648 ≤ y1015 ∧ y1015 ≤ 2147483647) →
  (((bool01 (decide (y1015 < 268435456))) ≠ 0 →
   (0 : Int) ≠ 0) ∧ ((bool01 (decide (y1015 < 268435456))) = 0 →
   (((bool01 (decide (1073742848 < y1015))) ≠ 0 →
    (0 : Int) ≠ 0) ∧ ((bool01 (decide (1073742848 < y1015))) = 0 →
    ∀ y1018 : Int, y1018 = (2 * (shrZ .u32 (band .i32 y1001 30) 1)) → (0 ≤ y1018 ∧ y1018 ≤ 30) →
    ∀ y1019 : Int, y1019 = (band .u64 (IntKind.wrap .u64 (y1015 * y1015)) 4294967295) → (0 ≤ y1019 ∧ y1019 ≤ 4294967295) →
    ∀ y1020 : Int, y1020 = (shrZ .u64 (IntKind.wrap .u64 (y1015 * y1015)) 32) → (0 ≤ y1020 ∧ y1020 ≤ 4294967295) →
    ∀ y1021 : Int, y1021 = (band .u64 (shlZ .u64 (IntKind.wrap .u64 a0) y1018) 4294967295) → (0 ≤ y1021 ∧ y1021 ≤ 4294967295) →
    ∀ y1022 : Int, y1022 = (shrZ .u64 (shlZ .u64 (IntKind.wrap .u64 a0) y1018) 32) → (0 ≤ y1022 ∧ y1022 ≤ 4294967295) →
    ∀ y1023 : Int, y1023 = ((y1020 * y1021) + (shrZ .u64 (y1019 * y1021) 32)) → (0 ≤ y1023 ∧ y1023 ≤ 18446744069414584319) →
    ∀ y1024 : Int, y1024 = (shrZ .u64 ((band .u64 y1023 4294967295) + (y1019 * y1022)) 32) → (0 ≤ y1024 ∧ y1024 ≤ 4294967295) →
    ∀ y1025 : Int, y1025 = (((y1020 * y1022) + (shrZ .u64 y1023 32)) + y1024) → (0 ≤ y1025 ∧ y1025 ≤ 18446744073709551614) →
    ∀ y1026 : Int, y1026 = (IntKind.wrap .u64 ((IntKind.wrap .u64 (y1015 * y1015)) * (shlZ .u64 (IntKind.wrap .u64 a0) y1018))) → (0 ≤ y1026 ∧ y1026 ≤ 18446744073709551615) →
    (((bool01 (decide (67108864 ≤ y1025))) ≠ 0 →
     (((bool01 (decide ((IntKind.wrap .u64 (y1025 - 67108864)) < 4))) ≠ 0 →
      (1 : Int) ≠ 0) ∧ ((bool01 (decide ((IntKind.wrap .u64 (y1025 - 67108864)) < 4))) = 0 →
      (0 : Int) ≠ 0))) ∧ ((bool01 (decide (67108864 ≤ y1025))) = 0 →
     (((bool01 (decide ((IntKind.wrap .u64 (67108864 - y1025)) ≤ 4))) ≠ 0 →
      (((bool01 (decide ((IntKind.wrap .u64 (67108864 - y1025)) < 4))) ≠ 0 →
       (1 : Int) ≠ 0) ∧ ((bool01 (decide ((IntKind.wrap .u64 (67108864 - y1025)) < 4))) = 0 →
       (((bool01 (decide (0 < y1026))) ≠ 0 →
        (1 : Int) ≠ 0) ∧ ((bool01 (decide (0 < y1026))) = 0 →
        (0 : Int) ≠ 0))))) ∧ ((bool01 (decide ((IntKind.wrap .u64 (67108864 - y1025)) ≤ 4))) = 0 →
      (0 : Int) ≠ 0))))))))))

theorem plain (a0 : Int) : T.holdsP (cxOf 2 [(-2147483648, 2147483647)]) (envOf [a0]) tree = P a0 := by kernel_rfl

theorem holds (a0 : Int) (l0 : -2147483648 ≤ a0) (u0 : a0 ≤ 2147483647) : P a0 := by
  unfold P
  simp only [b01_ne, b01_eq]
  refine ⟨fun _ => by decide, fun h0 => ?_⟩
  have h1 : 1 ≤ a0 := by omega
  intro y1 e1 _ y2 e2 _ y3 e3 b3 y4 e4 _ y5 e5 b5 y6 e6 _ y7 e7 _ y8 e8 _ y9 e9 _ y10 e10 _ y11 e11 _ y12 e12 _ y13 e13 _ y14 e14 _ y15 e15 _
  have hz := steps e3 b3.1 e4 e5 b5 e6 e7 e8 e9 e10 e11 e12 e13 e14 e15
  obtain ⟨h, hh, q1, q2, q3, q4, q5⟩ := level h1 u0
  rw [← e1] at q1
  have hX : ∃ X, X = a0 * 2 ^ (2 * h) := ⟨_, rfl⟩
  obtain ⟨X, hX⟩ := hX
  rw [q1, q2, q3, ← hX] at e2
  rw [← hX] at q4 q5
  have e2' : y2 = X / 4 := e2.trans (shr_eq (k := .u32) (n := 2) (by decide) X)
  obtain ⟨z0, z1, z2, v1, v2⟩ := root_near q4 q5 e2' hz
  refine ⟨fun _ => by omega, fun _ => ⟨fun _ => by omega, fun _ => ?_⟩⟩
  intro y18 e18 _ y19 e19 _ y20 e20 _ y21 e21 _ y22 e22 _ y23 e23 _ y24 e24 _ y25 e25 _ y26 _ _
  have hsh : 2 * shrZ .u32 (2 * (h : Int)) 1 = ((2 * h : Nat) : Int) := by
    rw [half_eq _ (by decide)]; omega
  rw [q1, hsh] at e18
  obtain ⟨zz0, zz1⟩ := mul_bd0 z0 z2 z0 z2
  have hzz : IntKind.wrap .u64 (y15 * y15) = y15 * y15 := wrap_u64 zz0 (by omega)
  have hsl : shlZ .u64 (IntKind.wrap .u64 a0) y18 = X := by
    rw [wrap_u64 (by omega) (by omega), e18, shl_eq (by show _ ≤ 64; omega), ← hX]
    exact wrap_u64 (by omega) (by omega)
  rw [hzz] at e19 e20
  rw [hsl] at e21 e22
  rw [band_low zz0 (by omega)] at e19
  rw [shr32] at e20 e22
  rw [band_low (by omega) (by omega), Int.emod_eq_of_lt (by omega) (by omega)] at e21
  have e22' : y22 = 0 := by omega
  have hp : y15 * y15 * X = X * (y15 * y15) := Int.mul_comm _ _
  have hb23 : 0 ≤ y23 ∧ y23 ≤ 18446744073709551615 := by omega
  rw [e22', shr32, band_low hb23.1 hb23.2] at e24
  rw [e22', shr32, e24] at e25
  rw [shr32] at e23
  rw [e23, e19, e20, e21] at e25
  obtain ⟨k1, k2⟩ := high_half (a := y15 * y15) (X := X) zz0 (by omega) (by omega) q5 e25
  rw [hp] at k1 k2
  clear e25 e24 e23 hb23 e22 e22' e21 e20 e19
  generalize X * (y15 * y15) = V at *
  have hw1 : 67108864 ≤ y25 → IntKind.wrap .u64 (y25 - 67108864) = y25 - 67108864 := fun _ => wrap_u64 (by omega) (by omega)
  have hw2 : ¬ 67108864 ≤ y25 → IntKind.wrap .u64 (67108864 - y25) = 67108864 - y25 := fun _ => wrap_u64 (by omega) (by omega)
  refine ⟨fun hc => ⟨fun _ => by decide, fun hd => ?_⟩, fun hc => ⟨fun _ => ⟨fun _ => by decide, fun hd => ⟨fun _ => by decide, fun _ => ?_⟩⟩, fun hd => ?_⟩⟩
  · rw [hw1 hc] at hd; omega
  · rw [hw2 hc] at hd; omega
  · rw [hw2 hc] at hd; omega

theorem walk (a0 : Int) (w0 : (Lit.int .i32 a0).wf = true) (w : World) :
    Calls Try.prog 9 #[.int .i32 a0] w fun e w' => e = .returned (.bool true) ∧ Below w.heap.size w w' :=
  truthP_of (runOf_ok smAa_ok 2 [(-2147483648, 2147483647)]) (envOf_ok (bnd_cons (wf_bd w0) (bnd_nil _))) (f := 9) (args := [.int .i32 (.v 0)]) (t := tree) (by kernel_rfl) (by kernel_rfl)
    (by rw [plain]; exact holds a0 (wf_bd w0).1 (wf_bd w0).2) rfl w

/-! ### the row's step -/
set_option maxRecDepth 100000 in
theorem lifted (os : Os) (started : os.Started) (H : Type) (enc : TypeId × Value → H) :
    ReturnsInHanded {} Try.checked os 9 .any (Rows.rootTrueSpec.pre6 enc Try.prog Try.f9 Rows.rootTrueRow.domain false) (Rows.rootTrueSpec.post enc Try.prog Try.f9 false true false false) := by
  refine returnsInHanded_of_change (C := Try.checked) own started (by kernel_rfl) Try.func9
    (ChangeSpec.witness6 (enc := enc) (C := Try.checked) false ⟨#[], #[.int .i32 0], []⟩ 8 (by kernel_rfl) (by kernel_rfl) (by kernel_rfl) (by kernel_rfl)) ?_
  intro W base args ds gs before hval0 hW hcnd _
  have hval : ∀ (j : Nat) t v, Try.f9.params[j]? = some t → args[j]? = some v → Value.okWide Try.prog W .any base t v := hval0
  have hW' := hW
  obtain ⟨p, q, hA0, hV, rfl, hfz, hnd⟩ := hW
  have hA : DataW.TrodAll enc Try.prog W 0 (fun _ => true) true Try.f9.params.toList args.toList ds p := hA0
  rw [Try.params9] at hA hval
  obtain ⟨v0, vs0, d0, ds0, p0, q0, hargs, rfl, rfl, h0, r0⟩ := trodAll_cons hA
  obtain ⟨rfl, rfl, rfl⟩ := trodAll_nil r0
  obtain rfl : args = #[v0] := by cases args; simp_all
  obtain ⟨rfl, rfl⟩ := trodVars_none hV
  obtain ⟨a0, rfl, rfl, rfl, w0⟩ := open_int Try.underlying21 (hval 0 21 v0 rfl rfl) h0
  clear hA0 hval0
  simp only [List.append_nil] at hW'
  refine (walk a0 w0 W).mono fun e W' ⟨he, hg⟩ => ?_
  subst he
  exact ⟨_, rfl, post_below (pa := []) (pv := []) hW' hg (fun _ _ _ => (trodAll_cons_mk (shut_bool Try.underlying4 _) trodAll_mk0)) (fun sp _ => (trodAll_cons_mk (shut_int Try.underlying21 w0) trodAll_mk0)) (fun _ _ => rfl) rfl
    (ok_one (by kernel_rfl) rfl (okWide_bool_mk Try.underlying4 _))⟩

theorem over : Rows.rootTrueRow.holds Try.pinned (OpenSpec.ofChange Rows.rootTrueSpec) :=
  OpenClaim.holds_of_wide 9 Try.f9 rfl rfl rfl rfl rfl rfl rfl ⟨rfl, rfl, rfl, rfl, rfl⟩ rfl rfl rfl rfl rfl (by kernel_rfl) Try.func9 (by kernel_rfl)
    (of_decide_eq_true (by kernel_rfl)) (by unfold Func.isWrapper; first | (rw [if_pos (by decide +kernel)]; kernel_rfl) | (rw [if_neg (by decide +kernel)]; exact ⟨rfl, rfl⟩))
    (fun os started H enc _ => lifted os started H enc)

/-- the statement -/
theorem proved : Rows.RootTrueSaid :=
  over
#print axioms proved
end Go.Proofs.Ytjooaieolphomaa.rootTrue
