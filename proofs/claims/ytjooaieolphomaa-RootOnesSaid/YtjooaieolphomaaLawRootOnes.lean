/-
  The law RootOnes answers true at every input: the law's function is run by the engine (a program's symbolic run, proved sound), and the tree of its answers, as a plain statement, is shown to hold. No condition.
-/
import Derived.Test.YtjooaieolphomaaRows
import Derived.Test.YtjooaieolphomaaTmAa
import Derived.Test.YtjooaieolphomaaEngT
import Derived.Test.YtjooaieolphomaaPlF
import Derived.WalkKit
import Derived.ProofKit
import Derived.OpenShut
namespace Go.Proofs.Ytjooaieolphomaa.rootOnes
open Go.ChangeShapes Go.WideShapes Go.ChangeAt Go.RowKit
open Go.Eng
set_option linter.unusedVariables false
set_option linter.unusedSimpArgs false

theorem own : ownKnob Try.prog.godebug = none := by kernel_rfl

set_option maxRecDepth 100000 in
def tree : T E :=
(.br (.b .lt .i64 (.v 0) (.c 1))
  (.leaf (.c 1))
  (.new 1001 (.b .psub .i64 (.c 32) (.f 0 (.w .u32 (.v 0)) (.c 0) (.c 0)))
  (.new 1002 (.b .shr .u32 (.b .shl .u32 (.w .u32 (.v 0)) (.b .and .i32 (.cl 1001 0 32) (.c 31))) (.c 2))
  (.new 1003 (.w .i32 (.b .shl .u32 (.w .u32 (.f 1 (.cl 1002 0 1073741823) (.b .psub .i64 (.c 1564549212) (.cl 1002 0 1073741823)) (.c 0))) (.c 1)))
  (.new 1004 (.f 1 (.b .psub .i64 (.c 1564549212) (.cl 1002 0 1073741823)) (.b .min .i64 (.b .psub .i64 (.c 1073741824) (.cl 1003 (-2147483648) 2147483647)) (.c 2147483647)) (.c 0))
  (.new 1005 (.b .min .i64 (.b .padd .i64 (.b .psub .i64 (.c 1564549212) (.cl 1002 0 1073741823)) (.cl 1004 (-2147483648) 2147483647)) (.c 2147483647))
  (.new 1006 (.w .i32 (.b .shl .u32 (.w .u32 (.f 1 (.cl 1002 0 1073741823) (.cl 1005 (-1656676259) 2147483647) (.c 0))) (.c 1)))
  (.new 1007 (.f 1 (.cl 1005 (-1656676259) 2147483647) (.b .min .i64 (.b .psub .i64 (.c 1073741824) (.cl 1006 (-2147483648) 2147483647)) (.c 2147483647)) (.c 0))
  (.new 1008 (.b .min .i64 (.b .max .i64 (.b .padd .i64 (.cl 1005 (-1656676259) 2147483647) (.cl 1007 (-2147483648) 2147483647)) (.c (-2147483648))) (.c 2147483647))
  (.new 1009 (.w .i32 (.b .shl .u32 (.w .u32 (.f 1 (.cl 1002 0 1073741823) (.cl 1008 (-2147483648) 2147483647) (.c 0))) (.c 1)))
  (.new 1010 (.f 1 (.cl 1008 (-2147483648) 2147483647) (.b .min .i64 (.b .psub .i64 (.c 1073741824) (.cl 1009 (-2147483648) 2147483647)) (.c 2147483647)) (.c 0))
  (.new 1011 (.b .min .i64 (.b .max .i64 (.b .padd .i64 (.cl 1008 (-2147483648) 2147483647) (.cl 1010 (-2147483648) 2147483647)) (.c (-2147483648))) (.c 2147483647))
  (.new 1012 (.w .i32 (.b .shl .u32 (.w .u32 (.f 1 (.cl 1002 0 1073741823) (.cl 1011 (-2147483648) 2147483647) (.c 0))) (.c 1)))
  (.new 1013 (.f 1 (.cl 1011 (-2147483648) 2147483647) (.b .min .i64 (.b .psub .i64 (.c 1073741824) (.cl 1012 (-2147483648) 2147483647)) (.c 2147483647)) (.c 0))
  (.new 1014 (.b .min .i64 (.b .max .i64 (.b .padd .i64 (.cl 1011 (-2147483648) 2147483647) (.cl 1013 (-2147483648) 2147483647)) (.c (-2147483648))) (.c 2147483647))
  (.br (.b .lt .i64 (.b .psub .i64 (.cl 1001 0 32) (.c 1)) (.c 0))
  (.leaf (.c 0))
  (.br (.b .lt .i64 (.c 30) (.b .psub .i64 (.cl 1001 0 32) (.c 1)))
  (.leaf (.c 0))
  (.br (.b .lt .i64 (.cl 1014 (-2147483648) 2147483647) (.c 268435456))
  (.leaf (.c 0))
  (.br (.b .lt .i64 (.c 1073742848) (.cl 1014 (-2147483648) 2147483647))
  (.leaf (.c 0))
  (.new 1019 (.b .shl .i64 (.v 0) (.w .u64 (.b .psub .i64 (.cl 1001 0 32) (.c 1))))
  (.new 1020 (.w .i64 (.b .psub .i64 (.w .i64 (.b .pmul .i64 (.cl 1019 (-9223372036854775808) 9223372036854775807) (.cl 1014 (-2147483648) 2147483647))) (.c 1152921504606846976)))
  (.br (.b .lt .i64 (.cl 1020 (-9223372036854775808) 9223372036854775807) (.c 17179869184))
  (.br (.b .lt .i64 (.c (-17179869184)) (.cl 1020 (-9223372036854775808) 9223372036854775807))
  (.leaf (.c 1))
  (.leaf (.c 0)))
  (.leaf (.c 0))))))))))))))))))))))))

def P (a0 : Int) : Prop :=
 (((bool01 (decide (a0 < 1))) ≠ 0 →
  (1 : Int) ≠ 0) ∧ ((bool01 (decide (a0 < 1))) = 0 →
  ∀ y1001 : Int, y1001 = (32 - (blen (IntKind.wrap .u32 a0))) → (0 ≤ y1001 ∧ y1001 ≤ 32) →
  ∀ y1002 : Int, y1002 = (shrZ .u32 (shlZ .u32 (IntKind.wrap .u32 a0) (band .i32 y1001 31)) 2) → (0 ≤ y1002 ∧ y1002 ≤ 1073741823) →
  ∀ y1003 : Int, y1003 = (IntKind.wrap .i32 (shlZ .u32 (IntKind.wrap .u32 (mulqZ y1002 (1564549212 - y1002))) 1)) → (-2147483648 ≤ y1003 ∧ y1003 ≤ 2147483647) →
  ∀ y1004 : Int, y1004 = (mulqZ (1564549212 - y1002) (minZ (1073741824 - y1003) 2147483647)) → (-2147483648 ≤ y1004 ∧ y1004 ≤ 2147483647) →
  ∀ y1005 : Int, y1005 = (minZ ((1564549212 - y1002) + y1004) 2147483647) → (-1656676259 ≤ y1005 ∧ y1005 ≤ 2147483647) →
  ∀ y1006 : Int, y1006 = (IntKind.wrap .i32 (shlZ .u32 (IntKind.wrap .u32 (mulqZ y1002 y1005)) 1)) → (-2147483648 ≤ y1006 ∧ y1006 ≤ 2147483647) →
  ∀ y1007 : Int, y1007 = (mulqZ y1005 (minZ (1073741824 - y1006) 2147483647)) → (-2147483648 ≤ y1007 ∧ y1007 ≤ 2147483647) →
  ∀ y1008 : Int, y1008 = (sat32 (y1005 + y1007)) → (-2147483648 ≤ y1008 ∧ y1008 ≤ 2147483647) →
  ∀ y1009 : Int, y1009 = (IntKind.wrap .i32 (shlZ .u32 (IntKind.wrap .u32 (mulqZ y1002 y1008)) 1)) → (-2147483648 ≤ y1009 ∧ y1009 ≤ 2147483647) →
  ∀ y1010 : Int, y1010 = (mulqZ y1008 (minZ (1073741824 - y1009) 2147483647)) → (-2147483648 ≤ y1010 ∧ y1010 ≤ 2147483647) →
  ∀ y1011 : Int, y1011 = (sat32 (y1008 + y1010)) → (-2147483648 ≤ y1011 ∧ y1011 ≤ 2147483647) →
  ∀ y1012 : Int, y1012 = (IntKind.wrap .i32 (shlZ .u32 (IntKind.wrap .u32 (mulqZ y1002 y1011)) 1)) → (-2147483648 ≤ y1012 ∧ y1012 ≤ 2147483647) →
  ∀ y1013 : Int, y1013 = (mulqZ y1011 (minZ (1073741824 - y1012) 2147483647)) → (-2147483648 ≤ y1013 ∧ y1013 ≤ 2147483647) →
  ∀ y1014 : Int, y1014 = (sat32 (y1011 + y1013)) → (-2147483648 ≤ y1014 ∧ y1014 ≤ 2147483647) →
  (((bool01 (decide ((y1001 - 1) < 0))) ≠ 0 →
   (0 : Int) ≠ 0) ∧ ((bool01 (decide ((y1001 - 1) < 0))) = 0 →
   (((bool01 (decide (30 < (y1001 - 1)))) ≠ 0 →
    (0 : Int) ≠ 0) ∧ ((bool01 (decide (30 < (y1001 - 1)))) = 0 →
    (((bool01 (decide (y1014 < 268435456))) ≠ 0 →
     (0 : Int) ≠ 0) ∧ ((bool01 (decide (y1014 < 268435456))) = 0 →
     (((bool01 (decide (1073742848 < y1014))) ≠ 0 →
      (0 : Int) ≠ 0) ∧ ((bool01 (decide (1073742848 < y1014))) = 0 →
      ∀ y1019 : Int, y1019 = (shlZ .i64 a0 (IntKind.wrap .u64 (y1001 - 1))) → (-9223372036854775808 ≤ y1019 ∧ y1019 ≤ 9223372036854775807) →
      ∀ y1020 : Int, y1020 = (IntKind.wrap .i64 ((IntKind.wrap .i64 (y1019 * y1014)) - 1152921504606846976)) → (-9223372036854775808 ≤ y1020 ∧ y1020 ≤ 9223372036854775807) →
      (((bool01 (decide (y1020 < 17179869184))) ≠ 0 →
       (((bool01 (decide ((-17179869184) < y1020))) ≠ 0 →
        (1 : Int) ≠ 0) ∧ ((bool01 (decide ((-17179869184) < y1020))) = 0 →
        (0 : Int) ≠ 0))) ∧ ((bool01 (decide (y1020 < 17179869184))) = 0 →
       (0 : Int) ≠ 0))))))))))))

theorem plain (a0 : Int) : T.holdsP (cxOf 2 [(-2147483648, 2147483647)]) (envOf [a0]) tree = P a0 := by kernel_rfl

/-- the highest place of a number from 1 on -/
theorem levelR {x : Int} (h1 : 1 ≤ x) (h2 : x ≤ 2147483647) : ∃ h : Nat, h ≤ 30 ∧ 32 - blen (IntKind.wrap .u32 x) = h + 1 ∧ band .i32 ((h : Int) + 1) 31 = h + 1 ∧
    shlZ .u32 (IntKind.wrap .u32 x) ((h : Int) + 1) = x * 2 ^ (h + 1) ∧ 2147483648 ≤ x * 2 ^ (h + 1) ∧ x * 2 ^ (h + 1) < 4294967296 := by
  rw [wrap_u32 (by omega) (by omega)]
  obtain ⟨k, hk, b1, b2, hb⟩ := blen_cases h1 (by omega)
  rw [hb]
  have hk' : k ≤ 30 := by
    rcases Nat.lt_or_ge k 31 with h' | h'
    · omega
    · have : k = 31 := by omega
      subst this
      have : (2 : Int) ^ 31 = 2147483648 := by decide
      omega
  have hs : (0 : Int) < 2 ^ (31 - k) := Int.pow_pos (by omega)
  have e1 := Int.mul_le_mul_of_nonneg_right b1 (Int.le_of_lt hs)
  have e2 := Int.mul_lt_mul_of_pos_right b2 hs
  rw [← Int.pow_add, show k + (31 - k) = 31 by omega] at e1
  rw [← Int.pow_add, show k + 1 + (31 - k) = 32 by omega] at e2
  have c1 : (2 : Int) ^ 31 = 2147483648 := by decide
  have c2 : (2 : Int) ^ 32 = 4294967296 := by decide
  rw [c1] at e1
  rw [c2] at e2
  refine ⟨30 - k, by omega, by omega, ?_, ?_, ?_, ?_⟩
  · have := band31' ⟨30 - k + 1, by omega⟩
    simp only at this
    rw [show (((30 - k : Nat) : Int) + 1) = ((30 - k + 1 : Nat) : Int) by omega]
    exact this
  · have := shl_eq (k := .u32) (n := 31 - k) (by show _ ≤ 32; omega) x
    rw [show (((30 - k : Nat) : Int) + 1) = ((31 - k : Nat) : Int) by omega, this, show 30 - k + 1 = 31 - k by omega]
    exact wrap_u32 (by omega) (by omega)
  · rw [show 30 - k + 1 = 31 - k by omega]; exact e1
  · rw [show 30 - k + 1 = 31 - k by omega]; exact e2

theorem holds (a0 : Int) (l0 : -2147483648 ≤ a0) (u0 : a0 ≤ 2147483647) : P a0 := by
  unfold P
  simp only [b01_ne, b01_eq]
  refine ⟨fun _ => by decide, fun h0 => ?_⟩
  have h1 : 1 ≤ a0 := by omega
  intro y1 e1 _ y2 e2 _ y3 e3 _ y4 e4 b4 y5 e5 _ y6 e6 _ y7 e7 _ y8 e8 _ y9 e9 _ y10 e10 _ y11 e11 _ y12 e12 _ y13 e13 _ y14 e14 _
  obtain ⟨h, hh, q1, q2, q3, q4, q5⟩ := levelR h1 u0
  rw [q1] at e1
  obtain ⟨X, hX⟩ : ∃ X, X = a0 * 2 ^ (h + 1) := ⟨_, rfl⟩
  rw [e1, q2, q3, ← hX] at e2
  rw [← hX] at q4 q5
  have e2' : y2 = X / 4 := e2.trans (shr_eq (k := .u32) (n := 2) (by decide) X)
  have hv0 : 536870912 ≤ y2 := by omega
  have hv1 : y2 ≤ 1073741823 := by omega
  have s5 : y5 = stepR y2 (1564549212 - y2) := by
    rw [← sat32_min (by omega)] at e5
    rw [e5, e4, e3]; rfl
  have s8 : y8 = stepR y2 y5 := by rw [e8, e7, e6]; rfl
  have s11 : y11 = stepR y2 y8 := by rw [e11, e10, e9]; rfl
  have s14 : y14 = stepR y2 y11 := by rw [e14, e13, e12]; rfl
  obtain ⟨z0, r1, r2⟩ := recip_res hv0 hv1
  rw [← s5, ← s8, ← s11, ← s14] at z0 r1 r2
  obtain ⟨z1, z2⟩ := resR_range hv0 hv1 z0 (by omega) (by omega)
  unfold resR at r1 r2
  have z3 : y14 ≤ 1073742848 := by
    rcases Int.lt_or_le 1073742848 y14 with h' | h'
    · exfalso
      have := Int.mul_le_mul hv0 (show 1073742849 ≤ y14 by omega) (by decide) (by omega)
      omega
    · exact h'
  refine ⟨fun _ => by omega, fun _ => ⟨fun _ => by omega, fun _ => ⟨fun _ => by omega, fun _ => ⟨fun _ => by omega, fun _ => ?_⟩⟩⟩⟩
  intro y19 e19 _ y20 e20 _
  have hsh : IntKind.wrap .u64 (y1 - 1) = (h : Int) := by rw [e1, wrap_u64 (by omega) (by omega)]; omega
  have h2X : 2 * (a0 * 2 ^ h) = X := by rw [hX, Int.pow_succ]; grind
  have e19' : y19 = a0 * 2 ^ h := by
    rw [e19, hsh, shl_eq (by show _ ≤ 64; omega)]
    exact wrap_in _ _ (by simp [klo]; omega) (by simp [khi]; omega)
  have h19 : 2 * y19 = X := by rw [e19']; exact h2X
  obtain ⟨p1, p2⟩ := mul_bd0 (show 0 ≤ y19 by omega) (show y19 ≤ 2147483648 by omega) z0 z3
  have hw : IntKind.wrap .i64 (y19 * y14) = y19 * y14 := wrap_in _ _ (by simp [klo]; omega) (by simp [khi]; omega)
  rw [hw] at e20
  have hw2 : y20 = y19 * y14 - 1152921504606846976 := e20.trans (wrap_in _ _ (by simp [klo]; omega) (by simp [khi]; omega))
  -- 2 y19 = X = 4 y2 + s
  obtain ⟨s, hs, s0, s3⟩ : ∃ s, s = X - 4 * y2 ∧ 0 ≤ s ∧ s ≤ 3 := ⟨_, rfl, by omega, by omega⟩
  have hmul : 2 * (y19 * y14) = 4 * (y2 * y14) + s * y14 := by
    have : 2 * y19 = 4 * y2 + s := by omega
    have h3 : 2 * (y19 * y14) = (2 * y19) * y14 := by grind
    rw [h3, this]; grind
  obtain ⟨t1, t2⟩ := mul_bd0 s0 s3 z0 z3
  refine ⟨fun _ => ⟨fun _ => by decide, fun _ => by omega⟩, fun _ => by omega⟩

theorem walk (a0 : Int) (w0 : (Lit.int .i32 a0).wf = true) (w : World) :
    Calls Try.prog 8 #[.int .i32 a0] w fun e w' => e = .returned (.bool true) ∧ Below w.heap.size w w' :=
  truthP_of (runOf_ok smAa_ok 2 [(-2147483648, 2147483647)]) (envOf_ok (bnd_cons (wf_bd w0) (bnd_nil _))) (f := 8) (args := [.int .i32 (.v 0)]) (t := tree) (by kernel_rfl) (by kernel_rfl)
    (by rw [plain]; exact holds a0 (wf_bd w0).1 (wf_bd w0).2) rfl w

/-! ### the row's step -/
set_option maxRecDepth 100000 in
theorem lifted (os : Os) (started : os.Started) (H : Type) (enc : TypeId × Value → H) :
    ReturnsInHanded {} Try.checked os 8 .any (Rows.rootOnesSpec.pre6 enc Try.prog Try.f8 Rows.rootOnesRow.domain false) (Rows.rootOnesSpec.post enc Try.prog Try.f8 false true false false) := by
  refine returnsInHanded_of_change (C := Try.checked) own started (by kernel_rfl) Try.func8
    (ChangeSpec.witness6 (enc := enc) (C := Try.checked) false ⟨#[], #[.int .i32 0], []⟩ 8 (by kernel_rfl) (by kernel_rfl) (by kernel_rfl) (by kernel_rfl)) ?_
  intro W base args ds gs before hval0 hW hcnd _
  have hval : ∀ (j : Nat) t v, Try.f8.params[j]? = some t → args[j]? = some v → Value.okWide Try.prog W .any base t v := hval0
  have hW' := hW
  obtain ⟨p, q, hA0, hV, rfl, hfz, hnd⟩ := hW
  have hA : DataW.TrodAll enc Try.prog W 0 (fun _ => true) true Try.f8.params.toList args.toList ds p := hA0
  rw [Try.params8] at hA hval
  obtain ⟨v0, vs0, d0, ds0, p0, q0, hargs, rfl, rfl, h0, r0⟩ := trodAll_cons hA
  obtain ⟨rfl, rfl, rfl⟩ := trodAll_nil r0
  obtain rfl : args = #[v0] := by cases args; simp_all
  obtain ⟨rfl, rfl⟩ := trodVars_none hV
  obtain ⟨a0, rfl, rfl, rfl, w0⟩ := open_int Try.underlying21 (hval 0 21 v0 rfl rfl) h0
  clear hA0 hval0
  simp only [List.append_nil] at hW'
  refine (walk a0 w0 W).mono fun e W' ⟨he, hg⟩ => ?_
  subst he
  exact ⟨_, rfl, post_below (pa := []) (pv := []) hW' hg (fun _ _ _ => (trodAll_cons_mk (shut_bool Try.underlying4 _) trodAll_mk0)) (fun sp _ => (trodAll_cons_mk (shut_int Try.underlying21 w0) trodAll_mk0)) (fun _ _ => rfl) rfl
    (ok_one (by kernel_rfl) rfl (okWide_bool_mk Try.underlying4 _))⟩

theorem over : Rows.rootOnesRow.holds Try.pinned (OpenSpec.ofChange Rows.rootOnesSpec) :=
  OpenClaim.holds_of_wide 8 Try.f8 rfl rfl rfl rfl rfl rfl rfl ⟨rfl, rfl, rfl, rfl, rfl⟩ rfl rfl rfl rfl rfl (by kernel_rfl) Try.func8 (by kernel_rfl)
    (of_decide_eq_true (by kernel_rfl)) (by unfold Func.isWrapper; first | (rw [if_pos (by decide +kernel)]; kernel_rfl) | (rw [if_neg (by decide +kernel)]; exact ⟨rfl, rfl⟩))
    (fun os started H enc _ => lifted os started H enc)

/-- the statement -/
theorem proved : Rows.RootOnesSaid :=
  over
#print axioms proved
end Go.Proofs.Ytjooaieolphomaa.rootOnes
