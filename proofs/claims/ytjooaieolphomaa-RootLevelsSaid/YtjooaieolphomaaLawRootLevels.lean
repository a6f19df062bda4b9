/-
  The law RootLevels answers true at every input: the law's function is run by the engine (a program's symbolic run, proved sound), and the tree of its answers is shown to hold. No condition.
-/
import Derived.Test.YtjooaieolphomaaRows
import Derived.Test.YtjooaieolphomaaBase
import Derived.Test.YtjooaieolphomaaTmW
import Derived.Test.YtjooaieolphomaaAwake08
import Derived.WalkKit
import Derived.ProofKit
import Derived.OpenShut
namespace Go.Proofs.Ytjooaieolphomaa.rootLevels
open Go.ChangeShapes Go.WideShapes Go.ChangeAt Go.RowKit
open Go.Eng
set_option linter.unusedVariables false
set_option linter.unusedSimpArgs false

theorem own : ownKnob Try.prog.godebug = none := by kernel_rfl

-- run: run8
def tree : T E := (.br (.b .lt .i64 (.v 0) (.c 1))
  (.leaf (.c 1))
  (.br (.b .le .i64 (.c 268435456) (.b .shr .u32 (.b .shl .u32 (.w .u32 (.v 0)) (.b .and .i32 (.b .and .i32 (.b .psub .i64 (.c 32) (.f 0 (.w .u32 (.v 0)) (.c 0) (.c 0))) (.c 30)) (.c 31))) (.c 2)))
  (.br (.b .eq .i64 (.b .shr .u32 (.b .shl .u32 (.w .u32 (.v 0)) (.b .and .i32 (.b .and .i32 (.b .psub .i64 (.c 32) (.f 0 (.w .u32 (.v 0)) (.c 0) (.c 0))) (.c 30)) (.c 31))) (.c 2)) (.b .shr .u32 (.b .shl .u32 (.w .u32 (.v 0)) (.b .pmul .i64 (.c 2) (.b .shr .i32 (.b .and .i32 (.b .psub .i64 (.c 32) (.f 0 (.w .u32 (.v 0)) (.c 0) (.c 0))) (.c 30)) (.c 1)))) (.c 2)))
  (.leaf (.c 1))
  (.leaf (.c 0)))
  (.leaf (.c 0))))

/-- the shift: by an even number -/
theorem and30 : ∀ k : Fin 31, IntKind.wrap .i32 ((BitVec.ofInt IntKind.i32.bits (32 - ((k.val : Int) + 1)) &&& BitVec.ofInt IntKind.i32.bits 30).toNat : Int) = 2 * ((31 - (k.val : Int)) / 2) := by decide +kernel
theorem and31 : ∀ k : Fin 16, IntKind.wrap .i32 ((BitVec.ofInt IntKind.i32.bits (2 * (k.val : Int)) &&& BitVec.ofInt IntKind.i32.bits 31).toNat : Int) = 2 * (k.val : Int) := by decide +kernel

theorem shl_key (k : Nat) (hk : k ≤ 30) {x : Int} (h1 : 2 ^ k ≤ x) (h2 : x < 2 ^ (k + 1)) :
    1073741824 ≤ x * 2 ^ (2 * ((31 - k) / 2)) ∧ x * 2 ^ (2 * ((31 - k) / 2)) < 4294967296 := by
  have hs : (0 : Int) < 2 ^ (2 * ((31 - k) / 2)) := Int.pow_pos (by omega)
  have e1 := Int.mul_le_mul_of_nonneg_right h1 (Int.le_of_lt hs)
  have e2 := Int.mul_lt_mul_of_pos_right h2 hs
  rw [← Int.pow_add] at e1 e2
  have p1 : (2 : Nat) ^ 30 ≤ 2 ^ (k + 2 * ((31 - k) / 2)) := Nat.pow_le_pow_right (by omega) (by omega)
  have p2 : (2 : Nat) ^ (k + 1 + 2 * ((31 - k) / 2)) ≤ 2 ^ 32 := Nat.pow_le_pow_right (by omega) (by omega)
  have q1 : (2 : Int) ^ 30 ≤ 2 ^ (k + 2 * ((31 - k) / 2)) := by exact_mod_cast p1
  have q2 : (2 : Int) ^ (k + 1 + 2 * ((31 - k) / 2)) ≤ 2 ^ 32 := by exact_mod_cast p2
  have c1 : (2 : Int) ^ 30 = 1073741824 := by decide
  have c2 : (2 : Int) ^ 32 = 4294967296 := by decide
  omega

theorem holds (a0 : Int) (l0 : -2147483648 ≤ a0) (u0 : a0 ≤ 2147483647) : T.holds (envOf [a0]) tree := by
  unfold tree
  simp only [T.holds, E.ev, BO.ev, envOf, List.getD_cons_zero, fN]
  refine ⟨fun _ => by decide, fun h => ?_⟩
  have h1 : 1 ≤ a0 := by
    rcases Int.lt_or_le a0 1 with h' | h'
    · simp [h', bool01] at h
    · exact h'
  have hw : IntKind.u32.wrap a0 = a0 := wrap_in _ _ (by simp [klo]; omega) (by simp [khi]; omega)
  rw [hw]
  obtain ⟨k, hk, b1, b2, hb⟩ := blen_cases h1 (by omega)
  rw [hb]
  have hk' : k ≤ 30 := by
    rcases Nat.lt_or_ge k 31 with h' | h'
    · omega
    · have : k = 31 := by omega
      subst this
      simp at b1
      omega
  clear hb hk h hw
  have a30 := and30 ⟨k, by omega⟩
  simp only at a30
  rw [a30]
  have e31 : (31 - (k : Int)) / 2 = (((31 - k) / 2 : Nat) : Int) := by omega
  rw [e31]
  have a31 := and31 ⟨(31 - k) / 2, by omega⟩
  simp only at a31
  rw [a31]
  obtain ⟨s1, s2⟩ := shl_key k hk' b1 b2
  have hm : Nat.min (2 * (((31 - k) / 2 : Nat) : Int)).toNat IntKind.u32.bits = 2 * ((31 - k) / 2) := by
    have : IntKind.u32.bits = 32 := rfl
    rw [this, show (2 * (((31 - k) / 2 : Nat) : Int)).toNat = 2 * ((31 - k) / 2) by omega]
    exact Nat.min_eq_left (by omega)
  have hm2 : Nat.min (2 : Int).toNat IntKind.u32.bits = 2 := rfl
  have hm1 : Nat.min (1 : Int).toNat IntKind.i32.bits = 1 := rfl
  rw [hm, hm2, hm1]
  rw [wrap_in .u32 _ (by simp [klo]; omega) (by simp [khi]; omega)]
  have f2 : (2 * (((31 - k) / 2 : Nat) : Int)).fdiv (2 ^ 1) = (((31 - k) / 2 : Nat) : Int) := by
    rw [Int.fdiv_eq_ediv_of_nonneg _ (by omega)]; omega
  rw [f2, hm]
  rw [wrap_in .u32 _ (by simp [klo]; omega) (by simp [khi]; omega)]
  generalize a0 * 2 ^ (2 * ((31 - k) / 2)) = y at s1 s2
  have f4 : y.fdiv (2 ^ 2) = y / 4 := by rw [Int.fdiv_eq_ediv_of_nonneg _ (by omega)]; rfl
  rw [f4]
  have : 268435456 ≤ y / 4 := by omega
  simp [bool01, this]

theorem walk (a0 : Int) (w0 : (Lit.int .i32 a0).wf = true) (w : World) :
    Calls Try.prog 6 #[.int .i32 a0] w fun e w' => e = .returned (.bool true) ∧ Below w.heap.size w w' :=
  truth_of (run8_ok [i32]) (envOf_ok (bnd_cons (i32_of w0) (bnd_nil _))) (f := 6) (args := [.int .i32 (.v 0)]) (t := tree) (by kernel_rfl) (holds a0 (i32_of w0).1 (i32_of w0).2) rfl w

/-! ### THE ROW's STEP: WRITTEN OUT: LEAVE IT -/
set_option maxRecDepth 100000 in
theorem lifted (os : Os) (started : os.Started) (H : Type) (enc : TypeId × Value → H) :
    ReturnsInHanded {} Try.checked os 6 .any (Rows.rootLevelsSpec.pre6 enc Try.prog Try.f6 Rows.rootLevelsRow.domain false) (Rows.rootLevelsSpec.post enc Try.prog Try.f6 false true false false) := by
  refine returnsInHanded_of_change (C := Try.checked) own started (by kernel_rfl) Try.func6
    (ChangeSpec.witness6 (enc := enc) (C := Try.checked) false ⟨#[], #[.int .i32 0], []⟩ 8 (by kernel_rfl) (by kernel_rfl) (by kernel_rfl) (by kernel_rfl)) ?_
  intro W base args ds gs before hval0 hW hcnd _
  have hval : ∀ (j : Nat) t v, Try.f6.params[j]? = some t → args[j]? = some v → Value.okWide Try.prog W .any base t v := hval0
  have hW' := hW
  obtain ⟨p, q, hA0, hV, rfl, hfz, hnd⟩ := hW
  have hA : DataW.TrodAll enc Try.prog W 0 (fun _ => true) true Try.f6.params.toList args.toList ds p := hA0
  rw [Try.params6] at hA hval
  obtain ⟨v0, vs0, d0, ds0, p0, q0, hargs, rfl, rfl, h0, r0⟩ := trodAll_cons hA
  obtain ⟨rfl, rfl, rfl⟩ := trodAll_nil r0
  obtain rfl : args = #[v0] := by cases args; simp_all
  obtain ⟨rfl, rfl⟩ := trodVars_none hV
  obtain ⟨a0, rfl, rfl, rfl, w0⟩ := open_int Try.underlying21 (hval 0 21 v0 rfl rfl) h0
  clear hA0 hval0
  simp only [List.append_nil] at hW'
  refine (walk a0 w0 W).mono fun e W' ⟨he, hg⟩ => ?_
  subst he
  exact ⟨_, rfl, post_below (pa := []) (pv := []) hW' hg (fun _ _ _ => (trodAll_cons_mk (shut_bool Try.underlying4 _) trodAll_mk0)) (fun sp _ => (trodAll_cons_mk (shut_int Try.underlying21 w0) trodAll_mk0)) (fun _ _ => rfl) rfl
    (ok_one (by kernel_rfl) rfl (okWide_bool_mk Try.underlying4 _))⟩

theorem over : Rows.rootLevelsRow.holds Try.pinned (OpenSpec.ofChange Rows.rootLevelsSpec) :=
  OpenClaim.holds_of_wide 6 Try.f6 rfl rfl rfl rfl rfl rfl rfl ⟨rfl, rfl, rfl, rfl, rfl⟩ rfl rfl rfl rfl rfl (by kernel_rfl) Try.func6 (by kernel_rfl)
    (of_decide_eq_true (by kernel_rfl)) (by unfold Func.isWrapper; first | (rw [if_pos (by decide +kernel)]; kernel_rfl) | (rw [if_neg (by decide +kernel)]; exact ⟨rfl, rfl⟩))
    (fun os started H enc _ => lifted os started H enc)

/-- ████ THE STATEMENT ████ -/
theorem proved : Rows.RootLevelsSaid :=
  over
#print axioms proved
end Go.Proofs.Ytjooaieolphomaa.rootLevels
