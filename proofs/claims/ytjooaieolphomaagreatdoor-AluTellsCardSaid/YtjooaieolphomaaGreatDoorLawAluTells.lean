/-
  The law AluTells answers true at every input: the law's function is run by the engine (a program's symbolic run, proved sound), and the tree of its answers, as a plain statement, is shown to hold. No condition but the table that the row lays, tied to the program's text by the card.
-/
import Derived.Test.YtjooaieolphomaaGreatDoorRows
import Derived.Test.YtjooaieolphomaaGreatDoorLawAluTellsA
import Derived.Test.YtjooaieolphomaaGreatDoorLawAluTellsB
import Derived.Test.YtjooaieolphomaaGreatDoorLawAluTellsC
import Derived.Test.YtjooaieolphomaaGreatDoorLawAluTellsD
import Derived.Test.YtjooaieolphomaaGreatDoorLawAluTellsE
import Derived.Test.YtjooaieolphomaaGreatDoorCards
import Derived.Test.YtjooaieolphomaaGreatDoorTie
import Derived.Test.YtjooaieolphomaaGreatDoorFmM
import Derived.Test.YtjooaieolphomaaGreatDoorEu4
import Derived.Test.YtjooaieolphomaaGreatDoorEu5
import Derived.WalkKit
import Derived.ProofKit
import Derived.OpenShut
import Derived.LaidMore
import Derived.Stop.Joined
import Derived.SevenTiedAt
namespace Go.Proofs.YtjooaieolphomaaGreatDoor.aluTells
open Go.ChangeShapes Go.WideShapes Go.ChangeAt Go.RowKit
open Go.Eng
set_option linter.unusedVariables false
set_option linter.unusedSimpArgs false

set_option maxRecDepth 100000

theorem walk (a0 a1 a2 : Int) (w0 : (Lit.int .i64 a0).wf = true) (w1 : (Lit.int .i32 a1).wf = true) (w2 : (Lit.int .i32 a2).wf = true) (w : World) (t0 : Lib.TabIs Tryz.prog w "astrolabe/ops.costs" .i64 tab0) :
    Calls Tryz.prog 3 #[.int .i64 a0, .int .i32 a1, .int .i32 a2] w fun e w' => e = .returned (.bool true) ∧ Below w.heap.size w w' := by
  have b0 := wf_bd w0
  simp only [klo, khi] at b0
  by_cases h0 : a0 ≤ 0
  · exact c0.walk a0 a1 a2 w0 w1 w2 w t0 ⟨by omega, by omega⟩
  by_cases h1 : a0 ≤ 1
  · exact c1.walk a0 a1 a2 w0 w1 w2 w t0 ⟨by omega, by omega⟩
  by_cases h2 : a0 ≤ 2
  · exact c2.walk a0 a1 a2 w0 w1 w2 w t0 ⟨by omega, by omega⟩
  by_cases h3 : a0 ≤ 3
  · exact c3.walk a0 a1 a2 w0 w1 w2 w t0 ⟨by omega, by omega⟩
  by_cases h4 : a0 ≤ 4
  · exact c4.walk a0 a1 a2 w0 w1 w2 w t0 ⟨by omega, by omega⟩
  by_cases h5 : a0 ≤ 5
  · exact c5.walk a0 a1 a2 w0 w1 w2 w t0 ⟨by omega, by omega⟩
  by_cases h6 : a0 ≤ 6
  · exact c6.walk a0 a1 a2 w0 w1 w2 w t0 ⟨by omega, by omega⟩
  by_cases h7 : a0 ≤ 7
  · exact c7.walk a0 a1 a2 w0 w1 w2 w t0 ⟨by omega, by omega⟩
  by_cases h8 : a0 ≤ 8
  · exact c8.walk a0 a1 a2 w0 w1 w2 w t0 ⟨by omega, by omega⟩
  by_cases h9 : a0 ≤ 9
  · exact c9.walk a0 a1 a2 w0 w1 w2 w t0 ⟨by omega, by omega⟩
  by_cases h10 : a0 ≤ 10
  · exact c10.walk a0 a1 a2 w0 w1 w2 w t0 ⟨by omega, by omega⟩
  by_cases h11 : a0 ≤ 11
  · exact c11.walk a0 a1 a2 w0 w1 w2 w t0 ⟨by omega, by omega⟩
  by_cases h12 : a0 ≤ 12
  · exact c12.walk a0 a1 a2 w0 w1 w2 w t0 ⟨by omega, by omega⟩
  by_cases h13 : a0 ≤ 13
  · exact c13.walk a0 a1 a2 w0 w1 w2 w t0 ⟨by omega, by omega⟩
  by_cases h14 : a0 ≤ 14
  · exact c14.walk a0 a1 a2 w0 w1 w2 w t0 ⟨by omega, by omega⟩
  by_cases h15 : a0 ≤ 15
  · exact c15.walk a0 a1 a2 w0 w1 w2 w t0 ⟨by omega, by omega⟩
  by_cases h16 : a0 ≤ 16
  · exact c16.walk a0 a1 a2 w0 w1 w2 w t0 ⟨by omega, by omega⟩
  by_cases h17 : a0 ≤ 17
  · exact c17.walk a0 a1 a2 w0 w1 w2 w t0 ⟨by omega, by omega⟩
  by_cases h18 : a0 ≤ 18
  · exact c18.walk a0 a1 a2 w0 w1 w2 w t0 ⟨by omega, by omega⟩
  by_cases h19 : a0 ≤ 19
  · exact c19.walk a0 a1 a2 w0 w1 w2 w t0 ⟨by omega, by omega⟩
  by_cases h20 : a0 ≤ 20
  · exact c20.walk a0 a1 a2 w0 w1 w2 w t0 ⟨by omega, by omega⟩
  by_cases h21 : a0 ≤ 21
  · exact c21.walk a0 a1 a2 w0 w1 w2 w t0 ⟨by omega, by omega⟩
  by_cases h22 : a0 ≤ 22
  · exact c22.walk a0 a1 a2 w0 w1 w2 w t0 ⟨by omega, by omega⟩
  by_cases h23 : a0 ≤ 23
  · exact c23.walk a0 a1 a2 w0 w1 w2 w t0 ⟨by omega, by omega⟩
  by_cases h24 : a0 ≤ 24
  · exact c24.walk a0 a1 a2 w0 w1 w2 w t0 ⟨by omega, by omega⟩
  by_cases h25 : a0 ≤ 25
  · exact c25.walk a0 a1 a2 w0 w1 w2 w t0 ⟨by omega, by omega⟩
  by_cases h26 : a0 ≤ 26
  · exact c26.walk a0 a1 a2 w0 w1 w2 w t0 ⟨by omega, by omega⟩
  by_cases h27 : a0 ≤ 27
  · exact c27.walk a0 a1 a2 w0 w1 w2 w t0 ⟨by omega, by omega⟩
  by_cases h28 : a0 ≤ 28
  · exact c28.walk a0 a1 a2 w0 w1 w2 w t0 ⟨by omega, by omega⟩
  by_cases h29 : a0 ≤ 29
  · exact c29.walk a0 a1 a2 w0 w1 w2 w t0 ⟨by omega, by omega⟩
  by_cases h30 : a0 ≤ 30
  · exact c30.walk a0 a1 a2 w0 w1 w2 w t0 ⟨by omega, by omega⟩
  by_cases h31 : a0 ≤ 31
  · exact c31.walk a0 a1 a2 w0 w1 w2 w t0 ⟨by omega, by omega⟩
  by_cases h32 : a0 ≤ 32
  · exact c32.walk a0 a1 a2 w0 w1 w2 w t0 ⟨by omega, by omega⟩
  by_cases h33 : a0 ≤ 33
  · exact c33.walk a0 a1 a2 w0 w1 w2 w t0 ⟨by omega, by omega⟩
  by_cases h34 : a0 ≤ 34
  · exact c34.walk a0 a1 a2 w0 w1 w2 w t0 ⟨by omega, by omega⟩
  by_cases h35 : a0 ≤ 35
  · exact c35.walk a0 a1 a2 w0 w1 w2 w t0 ⟨by omega, by omega⟩
  by_cases h36 : a0 ≤ 36
  · exact c36.walk a0 a1 a2 w0 w1 w2 w t0 ⟨by omega, by omega⟩
  by_cases h37 : a0 ≤ 37
  · exact c37.walk a0 a1 a2 w0 w1 w2 w t0 ⟨by omega, by omega⟩
  by_cases h38 : a0 ≤ 38
  · exact c38.walk a0 a1 a2 w0 w1 w2 w t0 ⟨by omega, by omega⟩
  by_cases h39 : a0 ≤ 39
  · exact c39.walk a0 a1 a2 w0 w1 w2 w t0 ⟨by omega, by omega⟩
  by_cases h40 : a0 ≤ 40
  · exact c40.walk a0 a1 a2 w0 w1 w2 w t0 ⟨by omega, by omega⟩
  by_cases h41 : a0 ≤ 41
  · exact c41.walk a0 a1 a2 w0 w1 w2 w t0 ⟨by omega, by omega⟩
  by_cases h42 : a0 ≤ 42
  · exact c42.walk a0 a1 a2 w0 w1 w2 w t0 ⟨by omega, by omega⟩
  by_cases h43 : a0 ≤ 43
  · exact c43.walk a0 a1 a2 w0 w1 w2 w t0 ⟨by omega, by omega⟩
  exact c44.walk a0 a1 a2 w0 w1 w2 w t0 ⟨by omega, by omega⟩

/-! ### the row's step -/
set_option maxRecDepth 100000
theorem door_met (os : Os) (args : Array Value) : laidMetH Tryz.prog Rows.aluTellsRow.laid ((World.doorLaid Tryz.prog 400 os).forCall (fun _ _ => 0) ⟨#[], args, []⟩).memory :=
  laidMetH_of_parts3 (fuel := 8) (laidMet_of_run' 8 (by kernel_rfl) (by kernel_rfl)) (by kernel_rfl) (by kernel_rfl)
theorem tab_of {W : World} (h : laidMetH Tryz.prog Rows.aluTellsRow.laid W) : Lib.TabIs Tryz.prog W "astrolabe/ops.costs" .i64 tab0 := by
  rw [MakeChecks.laidMetH_plain _ _ _ (by kernel_rfl)] at h
  exact Lib.tabIs_of_head (rest := []) tabG0 (t := 50) (e := 3) (n := 43) (by kernel_rfl) (by kernel_rfl) (by kernel_rfl) (by kernel_rfl) (by kernel_rfl) h

theorem lifted (os : Os) (started : os.Started) (H : Type) (enc : TypeId × Value → H) :
    ReturnsInHanded {} Tryz.checked os 3 .any (fun w args => (Rows.aluTellsSpec.pre enc Tryz.prog Tryz.f3 Rows.aluTellsRow.domain false w args ∧ laidMetH Tryz.prog Rows.aluTellsRow.laid w) ∧ sizedMet enc Tryz.prog Tryz.f3 (OpenSpec.ofChange Rows.aluTellsSpec) false w args)
      (Rows.aluTellsSpec.post enc Tryz.prog Tryz.f3 false true false false) := by
  refine returnsInHanded_of_change_and (C := Tryz.checked) (X := fun w _ => laidMetH Tryz.prog Rows.aluTellsRow.laid w) (fun _ _ _ hh h => h.of_heap hh) own started (by kernel_rfl) Tryz.func3
    (ChangeSpec.witness_shaped (enc := enc) (C := Tryz.checked) (os := os) (X := fun w _ => laidMetH Tryz.prog Rows.aluTellsRow.laid w) false (World.doorLaid Tryz.prog 400 os) #[.int .i64 0, .int .i32 0, .int .i32 0] 8 rfl (World.shaped_of_RefB (by kernel_rfl) (by kernel_rfl)) (by kernel_rfl) (by kernel_rfl) (by kernel_rfl) (door_met os _)) ?_
  intro W base args ds gs before hval0 hW hcnd _ hL _
  have hval : ∀ (j : Nat) t v, Tryz.f3.params[j]? = some t → args[j]? = some v → Value.okWide Tryz.prog W .any base t v := hval0
  have hW' := hW
  obtain ⟨p, q, hA0, hV, rfl, hfz, hnd⟩ := hW
  have hA : DataW.TrodAll enc Tryz.prog W 0 (fun _ => true) true Tryz.f3.params.toList args.toList ds p := hA0
  rw [Tryz.params3] at hA hval
  obtain ⟨v0, vs0, d0, ds0, p0, q0, hargs, rfl, rfl, h0, r0⟩ := trodAll_cons hA
  obtain ⟨v1, vs1, d1, ds1, p1, q1, rfl, rfl, rfl, h1, r1⟩ := trodAll_cons r0
  obtain ⟨v2, vs2, d2, ds2, p2, q2, rfl, rfl, rfl, h2, r2⟩ := trodAll_cons r1
  obtain ⟨rfl, rfl, rfl⟩ := trodAll_nil r2
  obtain rfl : args = #[v0, v1, v2] := by cases args; simp_all
  obtain ⟨rfl, rfl⟩ := trodVars_none hV
  obtain ⟨a0, rfl, rfl, rfl, w0⟩ := open_int Tryz.underlying3 (hval 0 3 v0 rfl rfl) h0
  obtain ⟨a1, rfl, rfl, rfl, w1⟩ := open_int Tryz.underlying21 (hval 1 21 v1 rfl rfl) h1
  obtain ⟨a2, rfl, rfl, rfl, w2⟩ := open_int Tryz.underlying21 (hval 2 21 v2 rfl rfl) h2
  clear hA0 hval0
  simp only [List.append_nil] at hW'
  refine (walk a0 a1 a2 w0 w1 w2 W (tab_of hL)).mono fun e W' ⟨he, hg⟩ => ?_
  subst he
  exact ⟨_, rfl, post_below (pa := []) (pv := []) hW' hg (fun _ _ _ => (trodAll_cons_mk (shut_bool Tryz.underlying4 _) trodAll_mk0)) (fun sp _ => (trodAll_cons_mk (shut_int Tryz.underlying3 w0) (trodAll_cons_mk (shut_int Tryz.underlying21 w1) (trodAll_cons_mk (shut_int Tryz.underlying21 w2) trodAll_mk0)))) (fun _ _ => rfl) rfl
    (ok_one (by kernel_rfl) rfl (okWide_bool_mk Tryz.underlying4 _))⟩

theorem over : Rows.aluTellsRow.holds Tryz.pinned (OpenSpec.ofChange Rows.aluTellsSpec) :=
  OpenClaim.holds_of_wide 3 Tryz.f3 rfl rfl rfl rfl rfl rfl rfl ⟨rfl, rfl, rfl, rfl, rfl⟩ rfl rfl rfl rfl rfl (by kernel_rfl) Tryz.func3 (by kernel_rfl)
    (of_decide_eq_true (by kernel_rfl)) (by unfold Func.isWrapper; first | (rw [if_pos (by decide +kernel)]; kernel_rfl) | (rw [if_neg (by decide +kernel)]; exact ⟨rfl, rfl⟩))
    (fun os started H enc _ => lifted os started H enc)

/-- the statement -/
theorem proved : Rows.AluTellsCardSaid :=
  Claim7.holds_tied_plain_at .later [] [.data] true (true, "b4d94519372c956d8e07ca6bac2ba3e3559dffc47a70d7fa57d31c62cfc96c18") false
    over (fun _ h => by cases h) (by kernel_rfl) (fun _ h => by cases h) aluTells_row_tie rfl ⟨rfl, rfl⟩ (by kernel_rfl) rfl
    (fun f fn hf hfn => by
      obtain rfl : f = 3 := Option.some.inj ((show Tryz.prog.funcNamed "astrolabe/astrolabelaw07.AluTells" = some 3 by kernel_rfl).symm.trans hf) |>.symm
      obtain rfl : fn = Tryz.f3 := (Option.some.inj (Tryz.func3.symm.trans hfn)).symm
      exact ⟨by kernel_rfl, fun j t ht => by
        rw [Tryz.params3] at ht
        have h3 : t = 21 ∨ t = 3 := by
          rcases j with _ | _ | _ | j
          · exact (.inr (by simpa using ht.symm))
          · exact (.inl (by simpa using ht.symm))
          · exact (.inl (by simpa using ht.symm))
          · simp at ht
        rcases h3 with rfl | rfl
        · exact (show Tryz.prog.wantsStandIn 21 = false by kernel_rfl)
        · exact (show Tryz.prog.wantsStandIn 3 = false by kernel_rfl)⟩)
    (by kernel_rfl)
#print axioms proved
end Go.Proofs.YtjooaieolphomaaGreatDoor.aluTells
