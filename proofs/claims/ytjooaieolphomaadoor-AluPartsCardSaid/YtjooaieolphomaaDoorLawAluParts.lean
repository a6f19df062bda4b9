/-
  The law AluParts answers true at every input: the law's function is run by the engine (a program's symbolic run, proved sound), and the tree of its answers, as a plain statement, is shown to hold. No condition but the table that the row lays, tied to the program's text by the card.
-/
import Derived.Test.YtjooaieolphomaaDoorRows
import Derived.Test.YtjooaieolphomaaDoorCards
import Derived.Test.YtjooaieolphomaaDoorTie
import Derived.Test.YtjooaieolphomaaDoorFen
import Derived.Test.YtjooaieolphomaaDoorFngTL
import Derived.Test.YtjooaieolphomaaDoorPmA
import Derived.WalkKit
import Derived.ProofKit
import Derived.OpenShut
import Derived.LaidMore
import Derived.Stop.Joined
import Derived.SevenTiedAt
namespace Go.Proofs.YtjooaieolphomaaDoor.aluParts
open Go.ChangeShapes Go.WideShapes Go.ChangeAt Go.RowKit
open Go.Eng
set_option linter.unusedVariables false
set_option linter.unusedSimpArgs false

theorem own : ownKnob Tryd.prog.godebug = none := by kernel_rfl

set_option maxRecDepth 100000
def tab0 : List Int := [1, 1, 1, 1, 1, 1, 1, 1, 1, 1, 1, 1, 1, 1, 1, 1, 1, 3, 3, 3, 3, 2, 2, 1, 1, 1, 1, 1, 1, 1, 1, 1, 1, 2, 2, 1, 1, 1, 3, 3, 3, 1, 1]
theorem tabG0 : Tryd.prog.globalNamed "astrolabe/ops.costs" = some 0 := by kernel_rfl
theorem tabW0 : ∀ z ∈ tab0, IntKind.wrap .i64 z = z := fun z hz => by
  have h := List.all_eq_true.1 (show tab0.all (fun z => decide (IntKind.wrap .i64 z = z)) = true by kernel_rfl) z hz
  simpa using h

def tree : TT (List E) :=
(.br (.b .ne .i64 (.b .padd .i64 (.b .shl .i32 (.b .shr .i32 (.v 0) (.c 16)) (.c 16)) (.b .and .i32 (.w .i16 (.v 0)) (.c 65535))) (.v 0))
  (.leaf [(.c 0)])
  (.br (.b .ne .i64 (.v 0) (.c 0))
  (.br (.b .eq .i64 (.v 0) (.c 0))
  (.leaf [(.c 0)])
  (.leaf [(.b .eq .i64 (.w .i64 (.b .padd .i64 (.w .i64 (.f 13 (.v 1) (.c 21) (.c 0))) (.c 3))) (.c 5))]))
  (.br (.b .eq .i64 (.v 0) (.c 0))
  (.leaf [(.b .eq .i64 (.w .i64 (.b .padd .i64 (.w .i64 (.f 13 (.v 1) (.c 21) (.c 0))) (.c 3))) (.c 5))])
  (.leaf [(.b .eq .i64 (.w .i64 (.b .padd .i64 (.w .i64 (.f 13 (.v 1) (.c 21) (.c 0))) (.c 3))) (.c 5))]))))

def P (a0 a1 : Int) : Prop :=
 (((bool01 (((shlZ .i32 (shrZ .i32 a0 16) 16) + (band .i32 (IntKind.wrap .i16 a0) 65535)) != a0)) ≠ 0 →
  (0 : Int) ≠ 0) ∧ ((bool01 (((shlZ .i32 (shrZ .i32 a0 16) 16) + (band .i32 (IntKind.wrap .i16 a0) 65535)) != a0)) = 0 →
  (((bool01 (a0 != 0)) ≠ 0 →
   (((bool01 (a0 == 0)) ≠ 0 →
    (0 : Int) ≠ 0) ∧ ((bool01 (a0 == 0)) = 0 →
    ((bool01 ((IntKind.wrap .i64 ((IntKind.wrap .i64 (rdZ a1 21)) + 3)) == 5)) : Int) ≠ 0))) ∧ ((bool01 (a0 != 0)) = 0 →
   (((bool01 (a0 == 0)) ≠ 0 →
    ((bool01 ((IntKind.wrap .i64 ((IntKind.wrap .i64 (rdZ a1 21)) + 3)) == 5)) : Int) ≠ 0) ∧ ((bool01 (a0 == 0)) = 0 →
    ((bool01 ((IntKind.wrap .i64 ((IntKind.wrap .i64 (rdZ a1 21)) + 3)) == 5)) : Int) ≠ 0))))))

theorem plain (a0 a1 : Int) (ro : List RO) : TT.hdP (cxOf 2 [(-2147483648, 2147483647)] [⟨[.int .i64], .v 1, .c 43, .c 43, some 0⟩]) isOne tree (envR [a0, a1] ro) = P a0 a1 := by kernel_rfl

theorem holds (a0 : Int) (l0 : -2147483648 ≤ a0) (u0 : a0 ≤ 2147483647) : P a0 (LZ tab0) := by
  have ht : bool01 ((IntKind.wrap .i64 ((IntKind.wrap .i64 (rdZ (LZ tab0) 21)) + 3)) == 5) ≠ 0 := by rw [rdZ_LZ]; decide
  have e1 : shlZ .i32 (shrZ .i32 a0 16) 16 + band .i32 (IntKind.wrap .i16 a0) 65535 = a0 := by
    rw [band_b]
    have h : (b32 (IntKind.wrap .i16 a0) &&& b32 65535).toInt = a0 % 65536 := by
      rw [← b_nat (b32 (IntKind.wrap .i16 a0) &&& b32 65535), ← wi_b]
      have : (b32 65535).toNat = 2 ^ 16 - 1 := by decide
      rw [BitVec.toNat_and, this, Nat.and_two_pow_sub_one_eq_mod, BitVec.toNat_ofInt]
      have h2 : (((2 ^ 32 : Nat)) : Int) = 4294967296 := by decide
      rw [h2]
      have hw : IntKind.wrap .i16 a0 % 65536 = a0 % 65536 := by
        simp [IntKind.wrap, IntKind.bits, IntKind.signed] <;> (try split) <;> omega
      rw [wi32]
      generalize IntKind.wrap .i16 a0 = q at hw
      split <;> omega
    have e2 : shrZ .i32 a0 16 = a0 / 65536 := by
      have : Nat.min (Int.toNat 16) IntKind.i32.bits = 16 := rfl
      simp only [shrZ, BO.ev]
      rw [this, Int.fdiv_eq_ediv_of_nonneg _ (by decide)]; rfl
    have e3 : shlZ .i32 (a0 / 65536) 16 = a0 / 65536 * 65536 := by
      have : Nat.min (Int.toNat 16) IntKind.i32.bits = 16 := rfl
      simp only [shlZ, BO.ev]
      rw [this]
      exact wrap_in _ _ (by simp [klo]; omega) (by simp [khi]; omega)
    rw [h, e2, e3]; omega
  unfold P
  rw [e1]
  have h5 : (IntKind.wrap .i64 ((IntKind.wrap .i64 (rdZ (LZ tab0) 21)) + 3)) = 5 := by
    rcases Decidable.em ((IntKind.wrap .i64 ((IntKind.wrap .i64 (rdZ (LZ tab0) 21)) + 3)) = 5) with h | h
    · exact h
    · simp [bool01, h] at ht
  rw [h5]
  by_cases h0 : a0 = 0 <;> simp [bool01, h0]

theorem ran : TT.beq (projL pjB (runT smB (fun _ _ => .auto) 2 [(-2147483648, 2147483647)] [⟨[.int .i64], .v 1, .c 43, .c 43, some 0⟩] 5 [.int .i32 (.v 0)] ⟨[], []⟩)) tree = true := by kernel_rfl
theorem fineT : (TT.fine (cxOf 2 [(-2147483648, 2147483647)] [⟨[.int .i64], .v 1, .c 43, .c 43, some 0⟩]) 1000 [] tree && (cxOf 2 [(-2147483648, 2147483647)] [⟨[.int .i64], .v 1, .c 43, .c 43, some 0⟩]).okB 1000 && SV.vbL 1000 [.int .i32 (.v 0)] && TT.tidy (cxOf 2 [(-2147483648, 2147483647)] [⟨[.int .i64], .v 1, .c 43, .c 43, some 0⟩]) [] tree) = true := by kernel_rfl
theorem walk (a0 : Int) (w0 : (Lit.int .i32 a0).wf = true) (w : World) (t0 : Lib.TabIs Tryd.prog w "astrolabe/ops.costs" .i64 tab0) :
    Calls Tryd.prog 5 #[.int .i32 a0] w fun e w' => e = .returned (.bool true) ∧ Below w.heap.size w w' :=
  lawT_of (runT_ok smB_ok (fun _ _ => .auto) 2 [(-2147483648, 2147483647)] [⟨[.int .i64], .v 1, .c 43, .c 43, some 0⟩]) (ρ := envR [a0, LZ tab0] [tabRo 0 .i64 tab0]) (envR_ok (cx := cxOf 2 [(-2147483648, 2147483647)] [⟨[.int .i64], .v 1, .c 43, .c 43, some 0⟩]) rfl rfl (bnd_cons (wf_bd w0) (bnd_nil _)) ⟨⟨rfl, rfl, rfl, rfl, (fun h => by cases h), fun g h => by cases h; rfl⟩, trivial⟩) (f := 5) (args := [.int .i32 (.v 0)]) (t := tree) ran fineT
    (by rw [plain]; exact holds a0 (wf_bd w0).1 (wf_bd w0).2) (roOk_of ⟨tabRo_at t0 tabG0 tabW0, trivial⟩) rfl

/-! ### the row's step -/
set_option maxRecDepth 100000
theorem door_met (os : Os) (args : Array Value) : laidMetH Tryd.prog Rows.aluPartsRow.laid ((World.doorLaid Tryd.prog 400 os).forCall (fun _ _ => 0) ⟨#[], args, []⟩).memory :=
  laidMetH_of_parts3 (fuel := 8) (laidMet_of_run' 8 (by kernel_rfl) (by kernel_rfl)) (by kernel_rfl) (by kernel_rfl)
theorem tab_of {W : World} (h : laidMetH Tryd.prog Rows.aluPartsRow.laid W) : Lib.TabIs Tryd.prog W "astrolabe/ops.costs" .i64 tab0 := by
  rw [MakeChecks.laidMetH_plain _ _ _ (by kernel_rfl)] at h
  exact Lib.tabIs_of_head (rest := []) tabG0 (t := 46) (e := 3) (n := 43) (by kernel_rfl) (by kernel_rfl) (by kernel_rfl) (by kernel_rfl) (by kernel_rfl) h

theorem lifted (os : Os) (started : os.Started) (H : Type) (enc : TypeId × Value → H) :
    ReturnsInHanded {} Tryd.checked os 5 .any (fun w args => (Rows.aluPartsSpec.pre enc Tryd.prog Tryd.f5 Rows.aluPartsRow.domain false w args ∧ laidMetH Tryd.prog Rows.aluPartsRow.laid w) ∧ sizedMet enc Tryd.prog Tryd.f5 (OpenSpec.ofChange Rows.aluPartsSpec) false w args)
      (Rows.aluPartsSpec.post enc Tryd.prog Tryd.f5 false true false false) := by
  refine returnsInHanded_of_change_and (C := Tryd.checked) (X := fun w _ => laidMetH Tryd.prog Rows.aluPartsRow.laid w) (fun _ _ _ hh h => h.of_heap hh) own started (by kernel_rfl) Tryd.func5
    (ChangeSpec.witness_shaped (enc := enc) (C := Tryd.checked) (os := os) (X := fun w _ => laidMetH Tryd.prog Rows.aluPartsRow.laid w) false (World.doorLaid Tryd.prog 400 os) #[.int .i32 0] 8 rfl (World.shaped_of_RefB (by kernel_rfl) (by kernel_rfl)) (by kernel_rfl) (by kernel_rfl) (by kernel_rfl) (door_met os _)) ?_
  intro W base args ds gs before hval0 hW hcnd _ hL _
  have hval : ∀ (j : Nat) t v, Tryd.f5.params[j]? = some t → args[j]? = some v → Value.okWide Tryd.prog W .any base t v := hval0
  have hW' := hW
  obtain ⟨p, q, hA0, hV, rfl, hfz, hnd⟩ := hW
  have hA : DataW.TrodAll enc Tryd.prog W 0 (fun _ => true) true Tryd.f5.params.toList args.toList ds p := hA0
  rw [Tryd.params5] at hA hval
  obtain ⟨v0, vs0, d0, ds0, p0, q0, hargs, rfl, rfl, h0, r0⟩ := trodAll_cons hA
  obtain ⟨rfl, rfl, rfl⟩ := trodAll_nil r0
  obtain rfl : args = #[v0] := by cases args; simp_all
  obtain ⟨rfl, rfl⟩ := trodVars_none hV
  obtain ⟨a0, rfl, rfl, rfl, w0⟩ := open_int Tryd.underlying21 (hval 0 21 v0 rfl rfl) h0
  clear hA0 hval0
  simp only [List.append_nil] at hW'
  refine (walk a0 w0 W (tab_of hL)).mono fun e W' ⟨he, hg⟩ => ?_
  subst he
  exact ⟨_, rfl, post_below (pa := []) (pv := []) hW' hg (fun _ _ _ => (trodAll_cons_mk (shut_bool Tryd.underlying4 _) trodAll_mk0)) (fun sp _ => (trodAll_cons_mk (shut_int Tryd.underlying21 w0) trodAll_mk0)) (fun _ _ => rfl) rfl
    (ok_one (by kernel_rfl) rfl (okWide_bool_mk Tryd.underlying4 _))⟩

theorem over : Rows.aluPartsRow.holds Tryd.pinned (OpenSpec.ofChange Rows.aluPartsSpec) :=
  OpenClaim.holds_of_wide 5 Tryd.f5 rfl rfl rfl rfl rfl rfl rfl ⟨rfl, rfl, rfl, rfl, rfl⟩ rfl rfl rfl rfl rfl (by kernel_rfl) Tryd.func5 (by kernel_rfl)
    (of_decide_eq_true (by kernel_rfl)) (by unfold Func.isWrapper; first | (rw [if_pos (by decide +kernel)]; kernel_rfl) | (rw [if_neg (by decide +kernel)]; exact ⟨rfl, rfl⟩))
    (fun os started H enc _ => lifted os started H enc)

/-- the statement -/
theorem proved : Rows.AluPartsCardSaid :=
  Claim7.holds_tied_plain_at .later [] [.data] true (true, "a66708c7ca074a02a54ef07774f954fca9e4cd7dd1bfbf93ef4caf8b965f6961") false
    over (fun _ h => by cases h) (by kernel_rfl) (fun _ h => by cases h) aluParts_row_tie rfl ⟨rfl, rfl⟩ (by kernel_rfl) rfl
    (fun f fn hf hfn => by
      obtain rfl : f = 5 := Option.some.inj ((show Tryd.prog.funcNamed "astrolabe/astrolabelaw07.AluParts" = some 5 by kernel_rfl).symm.trans hf) |>.symm
      obtain rfl : fn = Tryd.f5 := (Option.some.inj (Tryd.func5.symm.trans hfn)).symm
      exact ⟨by kernel_rfl, fun j t ht => by
        rw [Tryd.params5] at ht
        have h3 : t = 21 := by
          rcases j with _ | j
          · exact (by simpa using ht.symm)
          · simp at ht
        rcases h3 with rfl
        · exact (show Tryd.prog.wantsStandIn 21 = false by kernel_rfl)⟩)
    (by kernel_rfl)
#print axioms proved
end Go.Proofs.YtjooaieolphomaaDoor.aluParts
