/-
  Functions of Go's library at this program, by their contracts, as the engine takes them. Printed by program.
-/
import Derived.Test.YtefpbddmpiaaiaaDoorGab
import Derived.Test.YtefpbddmpiaaiaaDoorShelf
import Derived.Shelf.Strings.SlTrimAscii
import Derived.OwnWalk
import Derived.Lib.Walk
import Derived.Lib.SliceRun
import Derived.Deep.LoopGhost
set_option linter.unusedVariables false
namespace Go.Proofs.YtefpbddmpiaaiaaDoor
open Go Go.Eng Go.RowKit
theorem con1C_ok : Con1C Tryd.prog 49 := ⟨Tryd.strings_Contains_one⟩
noncomputable def libCon1 (Γ : List (Int × Int)) (ins : List InD) (n : Nat) : Sm1 := con1T (cxG n Γ ins) 51
theorem libCon1_ok (Γ : List (Int × Int)) (ins : List InD) (n : Nat) : Sm1Ok (cxG n Γ ins) 49 (libCon1 Γ ins n) := fun ρ β s s' w args r v hρ hs h hr => con1T_ok (cx := cxG n Γ ins) con1C_ok (fun _ _ _ => rfl) ρ β s s' w args r v hρ hs h hr
theorem trimC_ok : TrimC Tryd.prog 50 := ⟨fun s c w hs hc ha => Any.strings_Trim_laid Tryd.lays160 (by kernel_rfl) s c w hs hc ha⟩
noncomputable def libTrim (Γ : List (Int × Int)) (ins : List InD) (n : Nat) : Sm1 := trimT (cxG n Γ ins) 52
theorem libTrim_ok (Γ : List (Int × Int)) (ins : List InD) (n : Nat) : Sm1Ok (cxG n Γ ins) 50 (libTrim Γ ins n) := fun ρ β s s' w args r v hρ hs h hr => trimT_ok (cx := cxG n Γ ins) trimC_ok (fun _ _ _ => rfl) ρ β s s' w args r v hρ hs h hr
section
open Go.Lib
set_option maxHeartbeats 2000000 in
set_option maxRecDepth 100000 in
theorem clone42_row (a : Addr) (n c : Nat) (xs : List Value) (w : World) (hl : xs.length = n * 4) (hc : ∀ (j : Nat) u, xs[j]? = some u → w.cell? (a.add j) = some u) (h1 : ∀ u ∈ xs, u.oneCell' = true) (hm : n ≤ maxLen) (hb : n * 40 ≤ 140737488355328) :
    Calls Tryd.prog 42 #[.slice (some a) n c] w fun e w' => ∃ v', e = .returned v' ∧ w'.ownsRow w.heap.size 37 4 v' n xs ∧ v' ≠ .slice none 0 0 ∧ Below w.heap.size w w' := by
  obtain ⟨i0, hi, hz0, hz1, hz2⟩ := info_parts (P := Tryd.prog) (e := 37) (z := .agg #[.string ⟨#[]⟩, .int .i64 0, .int .i64 0, .bool false]) (size := 4) (bytes := 40) (by kernel_rfl)
  have q22 : ∀ (w : World) (a : Option Addr) (n c n' c' : Nat), (binOp .eql 29 (.slice a n c) (.slice none n' c')).run Tryd.prog w = .ok (.bool a.isNone) w := fun w a n c n' c' => Lib.run_eql_slice_nil w _ _ a n c n' c' Tryd.underlying29
  have u22 : ∀ w, Sem.run Tryd.prog (underlying 29) w = .ok (TypeDesc.slice 37) w := run_underlying Tryd.underlying29
  have A : Aside (∀ (j : Nat) u, xs[j]? = some u → w.cell? (a.add j) = some u) := hc
  clear hc
  go_enter Tryd.func42, Tryd.ntmps42
  go_wp2_with (at_builtin; refine wpList_append_own _ rfl _ _ 29 rfl w.heap.size 37 i0 (.agg #[.string ⟨#[]⟩, .int .i64 0, .int .i64 0, .bool false]) 4 40 Tryd.underlying29 hi hz0 hz1 hz2 rfl (by decide) _ _ _ rfl (World.ownsRow_made w #[] 0 (Nat.le_refl _) (Nat.zero_le _) rfl) a n c xs rfl ?qc1 ?qc2 ?qc3 ?qc4 ?qc5 ?qc6 ?_)
  case qc1 => exact hl
  case qc2 =>
    intro j u hj
    exact Lib.cell?_alloc_some _ (A.out j u hj)
  case qc3 => exact h1
  case qc4 => omega
  case qc5 => omega
  case qc6 => simp
  intro v' w1 hown hgrow hnil
  go_wp2
  go_ret
  refine ⟨v', rfl, by simpa using hown, ?_, ?_⟩
  · first | exact hnil | (intro e; exact absurd (hnil.1 e).1 (by simp))
  · exact ((Below.refl _ w).alloc (Nat.le_refl _) _).grown hgrow (by simp) (by intro k hk; simp [Value.ownBlock] at hk; omega)
set_option maxHeartbeats 1000000 in
theorem clone42_nil (n c : Nat) (w : World) :
    Calls Tryd.prog 42 #[.slice none n c] w fun e w' => e = .returned (.slice none 0 0) ∧ w' = w := by
  have q22 : ∀ (w : World) (a : Option Addr) (n c n' c' : Nat), (binOp .eql 29 (.slice a n c) (.slice none n' c')).run Tryd.prog w = .ok (.bool a.isNone) w := fun w a n c n' c' => Lib.run_eql_slice_nil w _ _ a n c n' c' Tryd.underlying29
  go_enter Tryd.func42, Tryd.ntmps42
  go_wp2
  go_ret
  exact ⟨rfl, rfl⟩
theorem clone42C : CloneC Tryd.prog 42 37 4 40 := ⟨clone42_nil, clone42_row⟩
noncomputable def libClone42 (Γ : List (Int × Int)) (ins : List InD) (n : Nat) : Sm1 := cloneT (cxG n Γ ins) [.str, .int .i64, .int .i64, .bool] 37
theorem libClone42_ok (Γ : List (Int × Int)) (ins : List InD) (n : Nat) : Sm1Ok (cxG n Γ ins) 42 (libClone42 Γ ins n) := fun ρ β s s' w args r v hρ hs h hr => cloneT_ok (cx := cxG n Γ ins) (cks := [.str, .int .i64, .int .i64, .bool]) (bytes := 40) clone42C (by decide) ρ β s s' w args r v hρ hs h hr
end
end Go.Proofs.YtefpbddmpiaaiaaDoor
