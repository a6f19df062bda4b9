/-
  Functions of Go's library at this program, by their contracts, as the engine takes them. Printed by program.
-/
import Derived.Test.YtdnkgacjibjlhaaGreatDoorGab
import Derived.Test.YtdnkgacjibjlhaaGreatDoorShelf
import Derived.Lib.Walk
import Derived.Lib.Small
import Derived.Lib.Tables
import Derived.OwnWalk
import Derived.Lib.SliceRun
import Derived.Deep.LoopGhost
import Derived.RangeFuncBox
import Derived.RangeFuncNested
import Derived.RangeFuncLeaves
import Derived.Shelf.Abstract
import Derived.Shelf.RegionOpen
import Derived.WalkKit
import Derived.OwnWalkIn
import Derived.TacticsInMore
import Derived.LoopNIn
import Derived.LoopIn
import Derived.Maps.OwnIn
import Derived.Maps.AppendAt
import Derived.Maps.RangeWalk
import Derived.Deep.OwnRows
import Derived.Laws.EntriesVeiled
import Derived.Deep.RegionHeld3
import Derived.Deep.RegionLaw
import Derived.Deep.AppendLies
import Derived.Test.YtdnkgacjibjlhaaGreatDoorGp3
import Derived.Test.YtdnkgacjibjlhaaGreatDoorGjb
set_option linter.unusedVariables false
set_option linter.unusedSimpArgs false
namespace Go.Proofs.YtdnkgacjibjlhaaGreatDoor
open Go Go.Eng Go.RowKit
theorem sortC_ok : SortC Tryz.prog 47 := ⟨Tryz.slices_Sort_int, Tryz.slices_Sort_int_none⟩
noncomputable def libSort (Γ : List (Int × Int)) (ins : List InD) (n : Nat) : Sm1 := sortT (cxG n Γ ins) 42
theorem libSort_ok (Γ : List (Int × Int)) (ins : List InD) (n : Nat) : Sm1Ok (cxG n Γ ins) 47 (libSort Γ ins n) := fun ρ β s s' w args r v hρ hs h hr => sortT_ok (cx := cxG n Γ ins) sortC_ok (fun _ _ _ => rfl) ρ β s s' w args r v hρ hs h hr
theorem compC_ok : CompC Tryz.prog 35 := ⟨Tryz.slices_Compact_int, Tryz.slices_Compact_int_empty⟩
noncomputable def libComp (Γ : List (Int × Int)) (ins : List InD) (n : Nat) : Sm1 := compT (cxG n Γ ins) 43 44
theorem libComp_ok (Γ : List (Int × Int)) (ins : List InD) (n : Nat) : Sm1Ok (cxG n Γ ins) 35 (libComp Γ ins n) := fun ρ β s s' w args r v hρ hs h hr => compT_ok (cx := cxG n Γ ins) compC_ok (fun _ _ _ => rfl) (fun _ _ _ => rfl) ρ β s s' w args r v hρ hs h hr
noncomputable def libCompK (Γ : List (Int × Int)) (ins : List InD) (n : Nat) : Sm1 := compKT
theorem libCompK_ok (Γ : List (Int × Int)) (ins : List InD) (n : Nat) : Sm1Ok (cxG n Γ ins) 35 (libCompK Γ ins n) := fun ρ β s s' w args r v hρ hs h hr => compKT_ok (cx := cxG n Γ ins) compC_ok ρ β s s' w args r v hρ hs h hr
theorem tab8 (i : Nat) (h : i < Lib.len8tab.size) : (((Lib.len8tab[i]'h).toNat : Nat) : Int) = (Lib.bitLen i : Int) ∧ (Lib.bitLen i : Int) ≤ 8 := by
  have hs := Lib.len8tab_size
  have h1 := Lib.len8_of (i : Int) (by omega) (by omega)
  have h2 := Lib.bitLen_le8' (i : Int) (by omega) (by omega)
  rw [Int.toNat_natCast] at h1 h2
  refine ⟨?_, by omega⟩
  rw [← h1]
  simp [Lib.len8, h]

theorem l24 (x : Int) (h0 : 0 ≤ x) (h1 : x ≤ 4294967295) (h2 : 16777216 ≤ x) (h : (x / 65536 / 256).toNat < Lib.len8tab.size) : wrap64 (24 + wrap64 (((Lib.len8tab[(x / 65536 / 256).toNat]'h).toNat : Nat) : Int)) = (Lib.bitLen x.toNat : Int) := by
  obtain ⟨t1, t2⟩ := tab8 (x / 65536 / 256).toNat h
  rw [t1]
  have e : (x / 65536 / 256).toNat = x.toNat / 16777216 := by omega
  have s := Lib.bitLen_shift24 x.toNat (by omega) (by omega)
  rw [e] at t2 ⊢
  rw [s]
  generalize Lib.bitLen (x.toNat / 16777216) = m at t2
  clear e s t1 h h0 h1 h2
  simp only [wrap64]
  omega

theorem l16 (x : Int) (h0 : 0 ≤ x) (h1 : x ≤ 4294967295) (h2 : 65536 ≤ x) (h : (x / 65536).toNat < Lib.len8tab.size) : wrap64 (16 + wrap64 (((Lib.len8tab[(x / 65536).toNat]'h).toNat : Nat) : Int)) = (Lib.bitLen x.toNat : Int) := by
  obtain ⟨t1, t2⟩ := tab8 (x / 65536).toNat h
  rw [t1]
  have e : (x / 65536).toNat = x.toNat / 65536 := by omega
  have s := Lib.bitLen_shift16 x.toNat (by omega) (by omega)
  rw [e] at t2 ⊢
  rw [s]
  generalize Lib.bitLen (x.toNat / 65536) = m at t2
  clear e s t1 h h0 h1 h2
  simp only [wrap64]
  omega

theorem l8 (x : Int) (h0 : 0 ≤ x) (h1 : x ≤ 4294967295) (h2 : 256 ≤ x) (h : (x / 256).toNat < Lib.len8tab.size) : wrap64 (8 + wrap64 (((Lib.len8tab[(x / 256).toNat]'h).toNat : Nat) : Int)) = (Lib.bitLen x.toNat : Int) := by
  obtain ⟨t1, t2⟩ := tab8 (x / 256).toNat h
  rw [t1]
  have e : (x / 256).toNat = x.toNat / 256 := by omega
  have s := Lib.bitLen_shift8 x.toNat (by omega) (by omega)
  rw [e] at t2 ⊢
  rw [s]
  generalize Lib.bitLen (x.toNat / 256) = m at t2
  clear e s t1 h h0 h1 h2
  simp only [wrap64]
  omega

theorem l0 (x : Int) (h0 : 0 ≤ x) (h1 : x ≤ 4294967295) (h2 : 0 ≤ x) (h : x.toNat < Lib.len8tab.size) : wrap64 (wrap64 (((Lib.len8tab[x.toNat]'h).toNat : Nat) : Int)) = (Lib.bitLen x.toNat : Int) := by
  obtain ⟨t1, t2⟩ := tab8 x.toNat h
  rw [t1]
  generalize Lib.bitLen x.toNat = m at t2
  clear t1 h h0 h1 h2
  simp only [wrap64]
  omega

set_option maxHeartbeats 4000000 in
set_option maxRecDepth 100000 in
theorem len32 (x : Int) (w : World) (h0 : 0 ≤ x) (h1 : x ≤ 4294967295) :
    Calls Tryz.prog 102 #[.int .u32 x] w fun e w' => e = .returned (.int .i64 (Lib.bitLen x.toNat)) ∧ w' = w := by
  have hs := Lib.len8tab_size
  go_enter Tryz.func102, Tryz.ntmps102
  go_wp2
  all_goals first
    | (exfalso; omega)
    | skip
  all_goals (go_ret; refine ⟨congrArg Ending.returned (congrArg (Value.int IntKind.i64) ?_), rfl⟩)
  all_goals first
    | exact l24 x h0 h1 (by omega) _
    | exact l16 x h0 h1 (by omega) _
    | exact l8 x h0 h1 (by omega) _
    | exact l0 x h0 h1 (by omega) _

theorem k56 (x : Int) (h0 : 0 ≤ x) (h1 : x ≤ 18446744073709551615) (h2 : 72057594037927936 ≤ x) (h : (x / 4294967296 / 65536 / 256).toNat < Lib.len8tab.size) (hb : x / 4294967296 / 65536 / 256 ≤ 255) : wrap64 (56 + wrap64 (((Lib.len8tab[(x / 4294967296 / 65536 / 256).toNat]'h).toNat : Nat) : Int)) = (Lib.bitLen x.toNat : Int) := by
  obtain ⟨t1, t2⟩ := tab8 (x / 4294967296 / 65536 / 256).toNat h
  rw [t1]
  have e : (x / 4294967296 / 65536 / 256).toNat = x.toNat / 72057594037927936 := by omega
  have s := Lib.bitLen_shift 56 x.toNat (by omega) (by omega)
  rw [show (2 : Nat) ^ 56 = 72057594037927936 from rfl] at s
  rw [e] at t2 ⊢
  rw [s]
  generalize Lib.bitLen (x.toNat / 72057594037927936) = m at t2
  clear e s t1 h h0 h1 h2
  simp only [wrap64]
  omega

theorem k48 (x : Int) (h0 : 0 ≤ x) (h1 : x ≤ 18446744073709551615) (h2 : 281474976710656 ≤ x) (h : (x / 4294967296 / 65536).toNat < Lib.len8tab.size) (hb : x / 4294967296 / 65536 ≤ 255) : wrap64 (48 + wrap64 (((Lib.len8tab[(x / 4294967296 / 65536).toNat]'h).toNat : Nat) : Int)) = (Lib.bitLen x.toNat : Int) := by
  obtain ⟨t1, t2⟩ := tab8 (x / 4294967296 / 65536).toNat h
  rw [t1]
  have e : (x / 4294967296 / 65536).toNat = x.toNat / 281474976710656 := by omega
  have s := Lib.bitLen_shift 48 x.toNat (by omega) (by omega)
  rw [show (2 : Nat) ^ 48 = 281474976710656 from rfl] at s
  rw [e] at t2 ⊢
  rw [s]
  generalize Lib.bitLen (x.toNat / 281474976710656) = m at t2
  clear e s t1 h h0 h1 h2
  simp only [wrap64]
  omega

theorem k40 (x : Int) (h0 : 0 ≤ x) (h1 : x ≤ 18446744073709551615) (h2 : 1099511627776 ≤ x) (h : (x / 4294967296 / 256).toNat < Lib.len8tab.size) (hb : x / 4294967296 / 256 ≤ 255) : wrap64 (40 + wrap64 (((Lib.len8tab[(x / 4294967296 / 256).toNat]'h).toNat : Nat) : Int)) = (Lib.bitLen x.toNat : Int) := by
  obtain ⟨t1, t2⟩ := tab8 (x / 4294967296 / 256).toNat h
  rw [t1]
  have e : (x / 4294967296 / 256).toNat = x.toNat / 1099511627776 := by omega
  have s := Lib.bitLen_shift 40 x.toNat (by omega) (by omega)
  rw [show (2 : Nat) ^ 40 = 1099511627776 from rfl] at s
  rw [e] at t2 ⊢
  rw [s]
  generalize Lib.bitLen (x.toNat / 1099511627776) = m at t2
  clear e s t1 h h0 h1 h2
  simp only [wrap64]
  omega

theorem k32 (x : Int) (h0 : 0 ≤ x) (h1 : x ≤ 18446744073709551615) (h2 : 4294967296 ≤ x) (h : (x / 4294967296).toNat < Lib.len8tab.size) (hb : x / 4294967296 ≤ 255) : wrap64 (32 + wrap64 (((Lib.len8tab[(x / 4294967296).toNat]'h).toNat : Nat) : Int)) = (Lib.bitLen x.toNat : Int) := by
  obtain ⟨t1, t2⟩ := tab8 (x / 4294967296).toNat h
  rw [t1]
  have e : (x / 4294967296).toNat = x.toNat / 4294967296 := by omega
  have s := Lib.bitLen_shift 32 x.toNat (by omega) (by omega)
  rw [show (2 : Nat) ^ 32 = 4294967296 from rfl] at s
  rw [e] at t2 ⊢
  rw [s]
  generalize Lib.bitLen (x.toNat / 4294967296) = m at t2
  clear e s t1 h h0 h1 h2
  simp only [wrap64]
  omega

theorem k24 (x : Int) (h0 : 0 ≤ x) (h1 : x ≤ 18446744073709551615) (h2 : 16777216 ≤ x) (h : (x / 65536 / 256).toNat < Lib.len8tab.size) (hb : x / 65536 / 256 ≤ 255) : wrap64 (24 + wrap64 (((Lib.len8tab[(x / 65536 / 256).toNat]'h).toNat : Nat) : Int)) = (Lib.bitLen x.toNat : Int) := by
  obtain ⟨t1, t2⟩ := tab8 (x / 65536 / 256).toNat h
  rw [t1]
  have e : (x / 65536 / 256).toNat = x.toNat / 16777216 := by omega
  have s := Lib.bitLen_shift 24 x.toNat (by omega) (by omega)
  rw [show (2 : Nat) ^ 24 = 16777216 from rfl] at s
  rw [e] at t2 ⊢
  rw [s]
  generalize Lib.bitLen (x.toNat / 16777216) = m at t2
  clear e s t1 h h0 h1 h2
  simp only [wrap64]
  omega

theorem k16 (x : Int) (h0 : 0 ≤ x) (h1 : x ≤ 18446744073709551615) (h2 : 65536 ≤ x) (h : (x / 65536).toNat < Lib.len8tab.size) (hb : x / 65536 ≤ 255) : wrap64 (16 + wrap64 (((Lib.len8tab[(x / 65536).toNat]'h).toNat : Nat) : Int)) = (Lib.bitLen x.toNat : Int) := by
  obtain ⟨t1, t2⟩ := tab8 (x / 65536).toNat h
  rw [t1]
  have e : (x / 65536).toNat = x.toNat / 65536 := by omega
  have s := Lib.bitLen_shift 16 x.toNat (by omega) (by omega)
  rw [show (2 : Nat) ^ 16 = 65536 from rfl] at s
  rw [e] at t2 ⊢
  rw [s]
  generalize Lib.bitLen (x.toNat / 65536) = m at t2
  clear e s t1 h h0 h1 h2
  simp only [wrap64]
  omega

theorem k8 (x : Int) (h0 : 0 ≤ x) (h1 : x ≤ 18446744073709551615) (h2 : 256 ≤ x) (h : (x / 256).toNat < Lib.len8tab.size) (hb : x / 256 ≤ 255) : wrap64 (8 + wrap64 (((Lib.len8tab[(x / 256).toNat]'h).toNat : Nat) : Int)) = (Lib.bitLen x.toNat : Int) := by
  obtain ⟨t1, t2⟩ := tab8 (x / 256).toNat h
  rw [t1]
  have e : (x / 256).toNat = x.toNat / 256 := by omega
  have s := Lib.bitLen_shift 8 x.toNat (by omega) (by omega)
  rw [show (2 : Nat) ^ 8 = 256 from rfl] at s
  rw [e] at t2 ⊢
  rw [s]
  generalize Lib.bitLen (x.toNat / 256) = m at t2
  clear e s t1 h h0 h1 h2
  simp only [wrap64]
  omega

theorem k0 (x : Int) (h0 : 0 ≤ x) (h1 : x ≤ 18446744073709551615) (h : x.toNat < Lib.len8tab.size) (hb : x ≤ 255) : wrap64 (wrap64 (((Lib.len8tab[x.toNat]'h).toNat : Nat) : Int)) = (Lib.bitLen x.toNat : Int) := by
  obtain ⟨t1, t2⟩ := tab8 x.toNat h
  rw [t1]
  generalize Lib.bitLen x.toNat = m at t2
  clear t1 h h0 h1
  simp only [wrap64]
  omega

set_option maxHeartbeats 8000000 in
set_option maxRecDepth 100000 in
theorem len64 (x : Int) (w : World) (h0 : 0 ≤ x) (h1 : x ≤ 18446744073709551615) :
    Calls Tryz.prog 88 #[.int .u64 x] w fun e w' => e = .returned (.int .i64 (Lib.bitLen x.toNat)) ∧ w' = w := by
  have hs := Lib.len8tab_size
  go_enter Tryz.func88, Tryz.ntmps88
  go_wp2
  all_goals first
    | (exfalso; omega)
    | skip
  all_goals (go_ret; refine ⟨congrArg Ending.returned (congrArg (Value.int IntKind.i64) ?_), rfl⟩)
  all_goals first
    | exact k56 x h0 h1 (by omega) _ (by omega)
    | exact k48 x h0 h1 (by omega) _ (by omega)
    | exact k40 x h0 h1 (by omega) _ (by omega)
    | exact k32 x h0 h1 (by omega) _ (by omega)
    | exact k24 x h0 h1 (by omega) _ (by omega)
    | exact k16 x h0 h1 (by omega) _ (by omega)
    | exact k8 x h0 h1 (by omega) _ (by omega)
    | exact k0 x h0 h1 _ (by omega)

noncomputable def libLen32 (Γ : List (Int × Int)) (ins : List InD) (n : Nat) : Sm1 := told1 (gLen (cxG n Γ ins))
theorem libLen32_ok (Γ : List (Int × Int)) (ins : List InD) (n : Nat) : Sm1Ok (cxG n Γ ins) 102 (libLen32 Γ ins n) := fun ρ β s s' w args r v hρ hs h hr => told1_ok (cx := cxG n Γ ins) (gLen_ok rfl fun x w h0 h1 => len32 x w h0 h1) ρ β s s' w args r v hρ hs h hr
noncomputable def libLen64 (Γ : List (Int × Int)) (ins : List InD) (n : Nat) : Sm1 := told1 (gLen64 (cxG n Γ ins))
theorem libLen64_ok (Γ : List (Int × Int)) (ins : List InD) (n : Nat) : Sm1Ok (cxG n Γ ins) 88 (libLen64 Γ ins n) := fun ρ β s s' w args r v hρ hs h hr => told1_ok (cx := cxG n Γ ins) (gLen64_ok rfl fun x w h0 h1 => len64 x w h0 h1) ρ β s s' w args r v hρ hs h hr
section
open Go.Lib
set_option maxHeartbeats 2000000 in
set_option maxRecDepth 100000 in
theorem clone21_row (a : Addr) (n c : Nat) (xs : List Value) (w : World) (hl : xs.length = n * 1) (hc : ∀ (j : Nat) u, xs[j]? = some u → w.cell? (a.add j) = some u) (h1 : ∀ u ∈ xs, u.oneCell' = true) (hm : n ≤ maxLen) (hb : n * 4 ≤ 140737488355328) :
    Calls Tryz.prog 21 #[.slice (some a) n c] w fun e w' => ∃ v', e = .returned v' ∧ w'.ownsRow w.heap.size 21 1 v' n xs ∧ v' ≠ .slice none 0 0 ∧ Below w.heap.size w w' := by
  obtain ⟨i0, hi, hz0, hz1, hz2⟩ := info_parts (P := Tryz.prog) (e := 21) (z := .int .i32 0) (size := 1) (bytes := 4) (by kernel_rfl)
  have q22 : ∀ (w : World) (a : Option Addr) (n c n' c' : Nat), (binOp .eql 23 (.slice a n c) (.slice none n' c')).run Tryz.prog w = .ok (.bool a.isNone) w := fun w a n c n' c' => Lib.run_eql_slice_nil w _ _ a n c n' c' Tryz.underlying23
  have u22 : ∀ w, Sem.run Tryz.prog (underlying 23) w = .ok (TypeDesc.slice 21) w := run_underlying Tryz.underlying23
  have A : Aside (∀ (j : Nat) u, xs[j]? = some u → w.cell? (a.add j) = some u) := hc
  clear hc
  go_enter Tryz.func21, Tryz.ntmps21
  go_wp2_with (at_builtin; refine wpList_append_own _ rfl _ _ 23 rfl w.heap.size 21 i0 (.int .i32 0) 1 4 Tryz.underlying23 hi hz0 hz1 hz2 rfl (by decide) _ _ _ rfl (World.ownsRow_made w #[] 0 (Nat.le_refl _) (Nat.zero_le _) rfl) a n c xs rfl ?qc1 ?qc2 ?qc3 ?qc4 ?qc5 ?qc6 ?_)
  case qc1 => exact hl
  case qc2 =>
    intro j u hj
    exact Lib.cell?_alloc_some _ (A.out j u hj)
  case qc3 => exact h1
  case qc4 => omega
  case qc5 => omega
  case qc6 => simp
  intro v' w1 hown hgrow hnil
  go_wp2
  go_ret
  refine ⟨v', rfl, by simpa using hown, ?_, ?_⟩
  · first | exact hnil | (intro e; exact absurd (hnil.1 e).1 (by simp))
  · exact ((Below.refl _ w).alloc (Nat.le_refl _) _).grown hgrow (by simp) (by intro k hk; simp [Value.ownBlock] at hk; omega)
set_option maxHeartbeats 1000000 in
theorem clone21_nil (n c : Nat) (w : World) :
    Calls Tryz.prog 21 #[.slice none n c] w fun e w' => e = .returned (.slice none 0 0) ∧ w' = w := by
  have q22 : ∀ (w : World) (a : Option Addr) (n c n' c' : Nat), (binOp .eql 23 (.slice a n c) (.slice none n' c')).run Tryz.prog w = .ok (.bool a.isNone) w := fun w a n c n' c' => Lib.run_eql_slice_nil w _ _ a n c n' c' Tryz.underlying23
  go_enter Tryz.func21, Tryz.ntmps21
  go_wp2
  go_ret
  exact ⟨rfl, rfl⟩
theorem clone21C : CloneC Tryz.prog 21 21 1 4 := ⟨clone21_nil, clone21_row⟩
noncomputable def libClone21 (Γ : List (Int × Int)) (ins : List InD) (n : Nat) : Sm1 := cloneT (cxG n Γ ins) [.int .i32] 21
theorem libClone21_ok (Γ : List (Int × Int)) (ins : List InD) (n : Nat) : Sm1Ok (cxG n Γ ins) 21 (libClone21 Γ ins n) := fun ρ β s s' w args r v hρ hs h hr => cloneT_ok (cx := cxG n Γ ins) (cks := [.int .i32]) (bytes := 4) clone21C (by decide) ρ β s s' w args r v hρ hs h hr
end
section
open Go.Lib
set_option maxHeartbeats 2000000 in
set_option maxRecDepth 100000 in
theorem clone22_row (a : Addr) (n c : Nat) (xs : List Value) (w : World) (hl : xs.length = n * 1) (hc : ∀ (j : Nat) u, xs[j]? = some u → w.cell? (a.add j) = some u) (h1 : ∀ u ∈ xs, u.oneCell' = true) (hm : n ≤ maxLen) (hb : n * 1 ≤ 140737488355328) :
    Calls Tryz.prog 22 #[.slice (some a) n c] w fun e w' => ∃ v', e = .returned v' ∧ w'.ownsRow w.heap.size 4 1 v' n xs ∧ v' ≠ .slice none 0 0 ∧ Below w.heap.size w w' := by
  obtain ⟨i0, hi, hz0, hz1, hz2⟩ := info_parts (P := Tryz.prog) (e := 4) (z := .bool false) (size := 1) (bytes := 1) (by kernel_rfl)
  have q22 : ∀ (w : World) (a : Option Addr) (n c n' c' : Nat), (binOp .eql 24 (.slice a n c) (.slice none n' c')).run Tryz.prog w = .ok (.bool a.isNone) w := fun w a n c n' c' => Lib.run_eql_slice_nil w _ _ a n c n' c' Tryz.underlying24
  have u22 : ∀ w, Sem.run Tryz.prog (underlying 24) w = .ok (TypeDesc.slice 4) w := run_underlying Tryz.underlying24
  have A : Aside (∀ (j : Nat) u, xs[j]? = some u → w.cell? (a.add j) = some u) := hc
  clear hc
  go_enter Tryz.func22, Tryz.ntmps22
  go_wp2_with (at_builtin; refine wpList_append_own _ rfl _ _ 24 rfl w.heap.size 4 i0 (.bool false) 1 1 Tryz.underlying24 hi hz0 hz1 hz2 rfl (by decide) _ _ _ rfl (World.ownsRow_made w #[] 0 (Nat.le_refl _) (Nat.zero_le _) rfl) a n c xs rfl ?qc1 ?qc2 ?qc3 ?qc4 ?qc5 ?qc6 ?_)
  case qc1 => exact hl
  case qc2 =>
    intro j u hj
    exact Lib.cell?_alloc_some _ (A.out j u hj)
  case qc3 => exact h1
  case qc4 => omega
  case qc5 => omega
  case qc6 => simp
  intro v' w1 hown hgrow hnil
  go_wp2
  go_ret
  refine ⟨v', rfl, by simpa using hown, ?_, ?_⟩
  · first | exact hnil | (intro e; exact absurd (hnil.1 e).1 (by simp))
  · exact ((Below.refl _ w).alloc (Nat.le_refl _) _).grown hgrow (by simp) (by intro k hk; simp [Value.ownBlock] at hk; omega)
set_option maxHeartbeats 1000000 in
theorem clone22_nil (n c : Nat) (w : World) :
    Calls Tryz.prog 22 #[.slice none n c] w fun e w' => e = .returned (.slice none 0 0) ∧ w' = w := by
  have q22 : ∀ (w : World) (a : Option Addr) (n c n' c' : Nat), (binOp .eql 24 (.slice a n c) (.slice none n' c')).run Tryz.prog w = .ok (.bool a.isNone) w := fun w a n c n' c' => Lib.run_eql_slice_nil w _ _ a n c n' c' Tryz.underlying24
  go_enter Tryz.func22, Tryz.ntmps22
  go_wp2
  go_ret
  exact ⟨rfl, rfl⟩
theorem clone22C : CloneC Tryz.prog 22 4 1 1 := ⟨clone22_nil, clone22_row⟩
noncomputable def libClone22 (Γ : List (Int × Int)) (ins : List InD) (n : Nat) : Sm1 := cloneT (cxG n Γ ins) [.bool] 4
theorem libClone22_ok (Γ : List (Int × Int)) (ins : List InD) (n : Nat) : Sm1Ok (cxG n Γ ins) 22 (libClone22 Γ ins n) := fun ρ β s s' w args r v hρ hs h hr => cloneT_ok (cx := cxG n Γ ins) (cks := [.bool]) (bytes := 1) clone22C (by decide) ρ β s s' w args r v hρ hs h hr
end
section
open Go.Lib
set_option maxHeartbeats 2000000 in
set_option maxRecDepth 100000 in
theorem clone23_row (a : Addr) (n c : Nat) (xs : List Value) (w : World) (hl : xs.length = n * 1) (hc : ∀ (j : Nat) u, xs[j]? = some u → w.cell? (a.add j) = some u) (h1 : ∀ u ∈ xs, u.oneCell' = true) (hm : n ≤ maxLen) (hb : n * 8 ≤ 140737488355328) :
    Calls Tryz.prog 23 #[.slice (some a) n c] w fun e w' => ∃ v', e = .returned v' ∧ w'.ownsRow w.heap.size 3 1 v' n xs ∧ v' ≠ .slice none 0 0 ∧ Below w.heap.size w w' := by
  obtain ⟨i0, hi, hz0, hz1, hz2⟩ := info_parts (P := Tryz.prog) (e := 3) (z := .int .i64 0) (size := 1) (bytes := 8) (by kernel_rfl)
  have q22 : ∀ (w : World) (a : Option Addr) (n c n' c' : Nat), (binOp .eql 25 (.slice a n c) (.slice none n' c')).run Tryz.prog w = .ok (.bool a.isNone) w := fun w a n c n' c' => Lib.run_eql_slice_nil w _ _ a n c n' c' Tryz.underlying25
  have u22 : ∀ w, Sem.run Tryz.prog (underlying 25) w = .ok (TypeDesc.slice 3) w := run_underlying Tryz.underlying25
  have A : Aside (∀ (j : Nat) u, xs[j]? = some u → w.cell? (a.add j) = some u) := hc
  clear hc
  go_enter Tryz.func23, Tryz.ntmps23
  go_wp2_with (at_builtin; refine wpList_append_own _ rfl _ _ 25 rfl w.heap.size 3 i0 (.int .i64 0) 1 8 Tryz.underlying25 hi hz0 hz1 hz2 rfl (by decide) _ _ _ rfl (World.ownsRow_made w #[] 0 (Nat.le_refl _) (Nat.zero_le _) rfl) a n c xs rfl ?qc1 ?qc2 ?qc3 ?qc4 ?qc5 ?qc6 ?_)
  case qc1 => exact hl
  case qc2 =>
    intro j u hj
    exact Lib.cell?_alloc_some _ (A.out j u hj)
  case qc3 => exact h1
  case qc4 => omega
  case qc5 => omega
  case qc6 => simp
  intro v' w1 hown hgrow hnil
  go_wp2
  go_ret
  refine ⟨v', rfl, by simpa using hown, ?_, ?_⟩
  · first | exact hnil | (intro e; exact absurd (hnil.1 e).1 (by simp))
  · exact ((Below.refl _ w).alloc (Nat.le_refl _) _).grown hgrow (by simp) (by intro k hk; simp [Value.ownBlock] at hk; omega)
set_option maxHeartbeats 1000000 in
theorem clone23_nil (n c : Nat) (w : World) :
    Calls Tryz.prog 23 #[.slice none n c] w fun e w' => e = .returned (.slice none 0 0) ∧ w' = w := by
  have q22 : ∀ (w : World) (a : Option Addr) (n c n' c' : Nat), (binOp .eql 25 (.slice a n c) (.slice none n' c')).run Tryz.prog w = .ok (.bool a.isNone) w := fun w a n c n' c' => Lib.run_eql_slice_nil w _ _ a n c n' c' Tryz.underlying25
  go_enter Tryz.func23, Tryz.ntmps23
  go_wp2
  go_ret
  exact ⟨rfl, rfl⟩
theorem clone23C : CloneC Tryz.prog 23 3 1 8 := ⟨clone23_nil, clone23_row⟩
noncomputable def libClone23 (Γ : List (Int × Int)) (ins : List InD) (n : Nat) : Sm1 := cloneT (cxG n Γ ins) [.int .i64] 3
theorem libClone23_ok (Γ : List (Int × Int)) (ins : List InD) (n : Nat) : Sm1Ok (cxG n Γ ins) 23 (libClone23 Γ ins n) := fun ρ β s s' w args r v hρ hs h hr => cloneT_ok (cx := cxG n Γ ins) (cks := [.int .i64]) (bytes := 8) clone23C (by decide) ρ β s s' w args r v hρ hs h hr
end
section
open Go.Lib
set_option maxHeartbeats 2000000 in
set_option maxRecDepth 100000 in
theorem clone29_row (a : Addr) (n c : Nat) (xs : List Value) (w : World) (hl : xs.length = n * 3) (hc : ∀ (j : Nat) u, xs[j]? = some u → w.cell? (a.add j) = some u) (h1 : ∀ u ∈ xs, u.oneCell' = true) (hm : n ≤ maxLen) (hb : n * 24 ≤ 140737488355328) :
    Calls Tryz.prog 29 #[.slice (some a) n c] w fun e w' => ∃ v', e = .returned v' ∧ w'.ownsRow w.heap.size 73 3 v' n xs ∧ v' ≠ .slice none 0 0 ∧ Below w.heap.size w w' := by
  obtain ⟨i0, hi, hz0, hz1, hz2⟩ := info_parts (P := Tryz.prog) (e := 73) (z := .agg #[.int .i64 0, .int .i64 0, .int .i64 0]) (size := 3) (bytes := 24) (by kernel_rfl)
  have q22 : ∀ (w : World) (a : Option Addr) (n c n' c' : Nat), (binOp .eql 37 (.slice a n c) (.slice none n' c')).run Tryz.prog w = .ok (.bool a.isNone) w := fun w a n c n' c' => Lib.run_eql_slice_nil w _ _ a n c n' c' Tryz.underlying37
  have u22 : ∀ w, Sem.run Tryz.prog (underlying 37) w = .ok (TypeDesc.slice 73) w := run_underlying Tryz.underlying37
  have A : Aside (∀ (j : Nat) u, xs[j]? = some u → w.cell? (a.add j) = some u) := hc
  clear hc
  go_enter Tryz.func29, Tryz.ntmps29
  go_wp2_with (at_builtin; refine wpList_append_own _ rfl _ _ 37 rfl w.heap.size 73 i0 (.agg #[.int .i64 0, .int .i64 0, .int .i64 0]) 3 24 Tryz.underlying37 hi hz0 hz1 hz2 rfl (by decide) _ _ _ rfl (World.ownsRow_made w #[] 0 (Nat.le_refl _) (Nat.zero_le _) rfl) a n c xs rfl ?qc1 ?qc2 ?qc3 ?qc4 ?qc5 ?qc6 ?_)
  case qc1 => exact hl
  case qc2 =>
    intro j u hj
    exact Lib.cell?_alloc_some _ (A.out j u hj)
  case qc3 => exact h1
  case qc4 => omega
  case qc5 => omega
  case qc6 => simp
  intro v' w1 hown hgrow hnil
  go_wp2
  go_ret
  refine ⟨v', rfl, by simpa using hown, ?_, ?_⟩
  · first | exact hnil | (intro e; exact absurd (hnil.1 e).1 (by simp))
  · exact ((Below.refl _ w).alloc (Nat.le_refl _) _).grown hgrow (by simp) (by intro k hk; simp [Value.ownBlock] at hk; omega)
set_option maxHeartbeats 1000000 in
theorem clone29_nil (n c : Nat) (w : World) :
    Calls Tryz.prog 29 #[.slice none n c] w fun e w' => e = .returned (.slice none 0 0) ∧ w' = w := by
  have q22 : ∀ (w : World) (a : Option Addr) (n c n' c' : Nat), (binOp .eql 37 (.slice a n c) (.slice none n' c')).run Tryz.prog w = .ok (.bool a.isNone) w := fun w a n c n' c' => Lib.run_eql_slice_nil w _ _ a n c n' c' Tryz.underlying37
  go_enter Tryz.func29, Tryz.ntmps29
  go_wp2
  go_ret
  exact ⟨rfl, rfl⟩
theorem clone29C : CloneC Tryz.prog 29 73 3 24 := ⟨clone29_nil, clone29_row⟩
noncomputable def libClone29 (Γ : List (Int × Int)) (ins : List InD) (n : Nat) : Sm1 := cloneT (cxG n Γ ins) [.int .i64, .int .i64, .int .i64] 73
theorem libClone29_ok (Γ : List (Int × Int)) (ins : List InD) (n : Nat) : Sm1Ok (cxG n Γ ins) 29 (libClone29 Γ ins n) := fun ρ β s s' w args r v hρ hs h hr => cloneT_ok (cx := cxG n Γ ins) (cks := [.int .i64, .int .i64, .int .i64]) (bytes := 24) clone29C (by decide) ρ β s s' w args r v hρ hs h hr
end
section
open Go.RowKit Go.Shelf Go.Eng
attribute [local go_sem] Oper.semAt_some
theorem noBar {nx : Nat → List Nat} {a q : Nat} : Eng.Way nx (fun _ => false = true) a q ↔ Eng.Way nx (fun _ => False) a q := by
  have : (fun _ : Nat => false = true) = fun _ => False := by funext _; simp
  rw [this]
theorem free_ok' (W : World) (q : Nat) : Calls Tryz.prog 52 (#[.int .i64 (q : Nat)] ++ #[]) W fun e w' => e = .returned (.bool false) ∧ w' = W := free_ok _ W
theorem spread0_ok {R : Addr} {cR n : Nat} {nx : Nat → List Nat} (hn : n ≤ 64) (hn0 : 0 < n) (hnx : ∀ p, ∀ q ∈ nx p, q < n) (hnl : ∀ p, (nx p).length ≤ 1000) (w : World) (hR : Rws0 w R n nx) :
    Calls Tryz.prog 50 #[.slice (some R) n cR, .int .i64 0, .func (.func 52) #[] #[]] w fun e w' => ∃ B x, e = .returned (.slice (some ⟨B, 0, none⟩) 1 1) ∧ Wd w' B x ∧ w.heap.size ≤ B ∧ Below w.heap.size w w' ∧ ∀ q, x.testBit q = true ↔ Eng.Way nx (fun _ => False) 0 q := by
  refine (spread_ok (fb := 52) (caps := #[]) (br := fun _ => false) hn hn0 hnx hnl 0 (by omega) w hR (fun args w => (enters_of Tryz.func52 (by kernel_rfl) rfl) args w) (fun W' _ q _ => free_ok' W' q)).mono ?_
  rintro e w' ⟨B, rfl, x, h1, h2, h3, h4⟩
  exact ⟨B, x, rfl, h1, h2, h3, fun q => (h4 q).trans ⟨fun h => noBar.1 h.2.2, fun h => ⟨by omega, by omega, noBar.2 h⟩⟩⟩
/-- what is known of the rows of words -/
structure NxOk (w : World) (oa : Option Addr) (n c : Nat) (nx : Nat → List Nat) : Prop where
  le : n ≤ 64
  lt : ∀ p, ∀ q ∈ nx p, q < n
  len : ∀ p, (nx p).length ≤ 1000
  nd : ∀ p, (nx p).Nodup
  call : ∀ p, p < n → ∀ W, Below w.heap.size w W → Calls Tryz.prog 75 #[.slice oa n c, .int .i64 (p : Nat)] W fun e w' => ∃ v', e = .returned v' ∧ OwnW w' W.heap.size v' (nx p) ∧ Below W.heap.size W w'
theorem weave_nx {w : World} {oa : Option Addr} {n c : Nat} {nx : Nat → List Nat} (h : NxOk w oa n c nx) : Calls Tryz.prog 51 #[.slice oa n c] w fun e w' => ∃ BN BB, e = .returned (.agg #[.slice (some ⟨BN, 0, none⟩) n n, .slice (some ⟨BB, 0, none⟩) n n]) ∧ Rws0 w' ⟨BN, 0, none⟩ n nx ∧ Rws0 w' ⟨BB, 0, none⟩ n (bkw nx n) ∧ Below w.heap.size w w' :=
  weave_ok h.le h.lt h.len h.nd w h.call
/-- a new row of truths -/
def BoolsR (w w' : World) (Bo n : Nat) (P : Nat → Prop) : Prop := ∃ g : Nat → Bool, w'.rowIs Bo 4 n (fun p => .bool (g p)) ∧ w.heap.size ≤ Bo ∧ Below w.heap.size w w' ∧ ∀ p, p < n → (g p = true ↔ P p)
theorem field0 (a b : Option Addr) (m n c d : Nat) (w : World) : (Instr.field 106 (.agg #[.slice a m c, .slice b n d]) 0).run Tryz.prog w = .ok (.slice a m c) w := by kernel_rfl
set_option maxRecDepth 100000 in
set_option maxHeartbeats 1000000 in
theorem Reached_ok {w : World} {oa : Option Addr} {n c : Nat} {nx : Nat → List Nat} (h : NxOk w oa n c nx) (hn0 : 0 < n) :
    Calls Tryz.prog 37 #[.slice oa n c] w fun e w' => ∃ Bo, e = .returned (.slice (some ⟨Bo, 0, none⟩) n n) ∧ BoolsR w w' Bo n (fun p => Eng.Way nx (fun _ => False) 0 p) := by
  have hw := weave_nx h
  have hn := h.le
  have A : Hid (NxOk w oa n c nx) := h
  clear h
  have hfd := field0
  have hmk := run_make_row' (P := Tryz.prog) 24 4 (.bool false) 1 (by kernel_rfl) (by kernel_rfl) rfl .i64 .i64 n (by omega) (by omega)
  go_enter Tryz.func37, Tryz.ntmps37
  go_wp2_with (first
    | (go_at_call 51; refine hw.mono ?_; rintro e w2 ⟨BN, BB, rfl, hN, hB, hbl⟩)
    | (go_at_call 50; refine (spread0_ok hn hn0 A.out.lt A.out.len w2 hN).mono ?_; rintro e w3 ⟨Br, xr, rfl, hWr, hBr, hB3, hreach⟩)
    | fail)
  have hr0 := World.rowIs_made w3 (.bool false) n 4
  have hWr0 : Wd (w3.alloc (.cells (madeCells #[.bool false] n) 4)) Br xr := hWr.kept (World.grownBy_alloc _ _ none) (by simp)
  have hlt := hWr.lt
  have hb0 : Below w.heap.size w w3 := hbl.trans (hB3.mono hbl.size)
  have B : Hid (Below w.heap.size w w3 ∧ ∀ q, xr.testBit q = true ↔ Eng.Way nx (fun _ => False) 0 q) := ⟨hb0, hreach⟩
  clear hfd hmk hw hbl hB3 hN hB hb0 hreach hWr
  go_loopw [15] (fun v wr => ∃ (k : Nat) (g : Nat → Bool), k ≤ n ∧ v = .int .i64 (k : Nat) ∧ wr.rowIs w3.heap.size 4 n (fun p => .bool (g p)) ∧ Wd wr Br xr ∧ Below w3.heap.size w3 wr ∧ ∀ p, p < k → g p = xr.testBit p) (fun v _ => n - (intOf v).toNat)
  case atStart => exact ⟨0, fun _ => false, Nat.zero_le _, rfl, hr0, hWr0, (Below.refl _ w3).alloc (Nat.le_refl _) _, fun p hp => by omega⟩
  case round =>
    clear hr0 hWr0
    obtain ⟨k, g, hk, rfl, hr, hW, hB, hg⟩ := hrel
    by_cases hkn : k < n
    · have hp0 : (0 : Int) ≤ (k : Int) := Int.natCast_nonneg _
      have hp2 : (k : Int) < (n : Int) := by omega
      have c0 := hr.cell hkn
      have f0 := hr.frozen k
      go_wp2_with (first
        | (go_at_call 53; refine (has_ok Br 1 k xr _ hW (by omega)).mono ?_; rintro e w' ⟨rfl, rfl⟩)
        | fail)
      go_roundw
      case rel =>
        refine ⟨k + 1, fun p => if p = k then xr.testBit k else g p, hkn, by simp, (hr.set k (.bool (xr.testBit k))).congr fun p _ => ?_, hW.kept (grown_cell _ w3.heap.size k _) (fun e => by have := Option.some.inj e; omega), hB.setCell (p := ⟨w3.heap.size, k, none⟩) (Nat.le_refl _) _, fun p hp => ?_⟩
        · by_cases e : p = k
          · simp [e]
          · simp [e]
        · by_cases e : p = k
          · simp [e]
          · simp [e]; exact hg p (by omega)
      case measure =>
        show n - (intOf (Value.int .i64 ((k + 1 : Nat) : Int))).toNat < n - (intOf (Value.int .i64 (k : Nat))).toNat
        simp only [intOf, Int.toNat_natCast]
        omega
    · go_wp2
      go_ret
      exact ⟨w3.heap.size, rfl, g, hr, B.out.1.size, B.out.1.trans (hB.mono B.out.1.size), fun p hp => by rw [hg p (by omega)]; exact B.out.2 p⟩
set_option maxRecDepth 100000 in
set_option maxHeartbeats 1000000 in
theorem spread_zero (R : Addr) (cR : Nat) (w : World) : Calls Tryz.prog 50 #[.slice (some R) 0 cR, .int .i64 0, .func (.func 52) #[] #[]] w fun e w' => ∃ B, e = .returned (.slice (some ⟨B, 0, none⟩) 0 0) ∧ Below w.heap.size w w' := by
  have hd : (0 + 63) / 64 = 0 := by omega
  go_enter Tryz.func50, Tryz.ntmps50
  go_wp2_with (first
    | (go_at_call 72; refine (none_ok 0 _ (by omega)).mono ?_; rintro e w2 ⟨rfl, rfl⟩; rw [hd])
    | fail)
  go_ret
  exact ⟨_, rfl, (((((Below.refl _ w).alloc (Nat.le_refl _) _).alloc (by simp only [World.size_alloc]; omega) _).alloc (by simp only [World.size_alloc]; omega) _).alloc (by simp only [World.size_alloc]; omega) _).alloc (by simp only [World.size_alloc]; omega) _⟩
set_option maxRecDepth 100000 in
set_option maxHeartbeats 1000000 in
theorem Reached_zero {w : World} {oa : Option Addr} {c : Nat} {nx : Nat → List Nat} (h : NxOk w oa 0 c nx) :
    Calls Tryz.prog 37 #[.slice oa 0 c] w fun e w' => ∃ Bo, e = .returned (.slice (some ⟨Bo, 0, none⟩) 0 0) ∧ BoolsR w w' Bo 0 (fun p => Eng.Way nx (fun _ => False) 0 p) := by
  have hw := weave_nx h
  have hfd := field0
  have hmk := run_make_row' (P := Tryz.prog) 24 4 (.bool false) 1 (by kernel_rfl) (by kernel_rfl) rfl .i64 .i64 0 (by omega) (by omega)
  rw [show ((0 : Nat) : Int) = 0 from rfl] at hmk
  go_enter Tryz.func37, Tryz.ntmps37
  go_wp2_with (first
    | (go_at_call 51; refine hw.mono ?_; rintro e w2 ⟨BN, BB, rfl, hN, hB, hbl⟩)
    | (go_at_call 50; refine (spread_zero _ _ w2).mono ?_; rintro e w3 ⟨Br, rfl, hB3⟩)
    | fail)
  go_loopw [15] (fun v wr => v = .int .i64 0 ∧ wr = w3.alloc (.cells (madeCells #[.bool false] 0) 4)) (fun _ _ => 0)
  case atStart => exact ⟨rfl, rfl⟩
  case round =>
    obtain ⟨rfl, rfl⟩ := hrel
    go_wp2
    go_ret
    exact ⟨w3.heap.size, rfl, fun _ => false, World.rowIs_made _ _ _ _, Nat.le_trans hbl.size hB3.size, (hbl.trans (hB3.mono hbl.size)).alloc (Nat.le_trans hbl.size hB3.size) _, fun p hp => by omega⟩
theorem NxOk.alloc {w : World} {oa : Option Addr} {n c : Nat} {nx : Nat → List Nat} (h : NxOk w oa n c nx) (o : Obj) : NxOk (w.alloc o) oa n c nx :=
  ⟨h.le, h.lt, h.len, h.nd, fun p hp W hW => h.call p hp W (((Below.refl _ w).alloc (Nat.le_refl _) o).trans (hW.mono (by simp)))⟩
theorem Rws.zero {W : World} {B : Nat} {R : Addr} {n : Nat} {nx : Nat → List Nat} (h : Rws W B R n nx) : Rws0 W R n nx := fun p hp => by
  obtain ⟨oa, c, h1, h2⟩ := h.2 p hp
  exact ⟨oa, c, h1, fun j q hj => by obtain ⟨a, e, _, hc⟩ := h2 j q hj; exact ⟨a, e, hc⟩⟩
theorem rd_p0 (a b : Int) : rdZ (qQq a (qQq b 0)) 0 = a := qQv _ _
theorem rd_p1 (a b : Int) : rdZ (qQq a (qQq b 0)) 1 = b := by
  rw [qQr _ _ (by omega)]
  exact qQv _ _
theorem lz_rd (f : Nat → Int) (n : Nat) {i : Nat} (h : i < n) : rdZ (LZ ((List.range n).map f)) i = f i := by
  unfold rdZ
  rw [qKw, Int.toNat_natCast, List.getD_eq_getElem?_getD, List.getElem?_map, List.getElem?_range h]
  rfl
theorem nx_map {q : Int} {n p : Nat} : nxL q n p = (nxf q n p).map fun x : Nat => (x : Int) := by
  unfold nxf
  rw [List.map_map]
  refine (List.map_id _).symm.trans (List.map_congr_left fun x hx => ?_)
  have := nx_pos (Int.natCast_nonneg p) hx
  simp only [Function.comp, id]
  omega
theorem nx_cells {q : Int} {n p : Nat} (hn : n ≤ 1000000) : (nxN q n p).toNat = (nxf q n p).length ∧ rowV [.int .i64] (nxZ q n p) (nxN q n p).toNat = rowI (nxf q n p) := by
  have e : (nxN q n p).toNat = (nxL q n p).length := by unfold nxN; simp
  refine ⟨by rw [e]; unfold nxf; rw [List.length_map], ?_⟩
  rw [e]
  unfold nxZ
  rw [rowV_list _ fun x hx => by have := nx_pos (Int.natCast_nonneg p) hx; have := nx_mem hx; omega, nx_map]
  simp [rowI]
theorem nxok {cx : Cx} (hP : cx.P = Tryz.prog) (hN : NextC cx 75 3) {oa : Option Addr} {n c : Nat} {q : Int} {w : World} (h : Grw cx oa n c q w) : NxOk w oa n c (nxf q n) := by
  refine ⟨h.le, fun p x hx => by have := nxf_lt hx; omega, fun p => nxf_len _ _ _, fun p => nxf_nodup _ _ _, fun p hp W hW => ?_⟩
  have hn := h.le
  obtain ⟨e1, e2⟩ := nx_cells (q := q) (n := n) (p := p) (by omega)
  rw [← hP]
  refine (hN.all oa n c p q W (h.tab.below hW) (h.row.below hW) (by omega) hp).mono ?_
  rintro e w' ⟨v', rfl, ho, hb⟩
  rw [e2, e1] at ho
  refine ⟨v', rfl, ?_, hb⟩
  rcases ho with ⟨h1, h2⟩ | ⟨g, cap, cur, mk, h1, h2, h3, h4⟩
  · exact .inl ⟨h1, List.length_eq_zero_iff.1 h2⟩
  · exact .inr ⟨g, cap, cur, mk, h1, h2, h3, fun j x hj => h4 j _ (by unfold rowI; rw [List.getElem?_map, hj]; rfl)⟩
theorem own_of_row {W : World} {base B t n : Nat} {f : Nat → Value} (h : W.rowIs B t n f) (hb : base ≤ B) (hn : n ≤ 1000) : W.ownsRow base t 1 (.slice (some ⟨B, 0, none⟩) n n) n ((List.range n).map f) := by
  obtain ⟨C, h1, h2, h3⟩ := h
  refine ⟨by simp, .inr ⟨B, n, C, rfl, hb, h1, Nat.le_refl _, by simp only [maxLen]; omega, by simp [h2], ?_⟩⟩
  apply List.ext_getElem?
  intro i
  by_cases hi : i < n
  · rw [List.getElem?_take, if_pos (by omega), List.getElem?_map, List.getElem?_range hi]
    simpa using h3 i hi
  · rw [List.getElem?_eq_none (by rw [List.length_take]; omega), List.getElem?_eq_none (by simp; omega)]
open Classical in
theorem reach_row {q : Int} {n : Nat} (hn : n ≤ 64) : rowV [.bool] (gfmZ q n (qQq 0 (qQq (-1) 0))) n = (List.range n).map fun p => Value.bool (decide (Eng.Way (nxf q n) (fun _ => False) 0 p)) := by
  unfold rowV
  simp only [qQb, ckV]
  rw [tabL_one (fun i => Value.bool (rdZ (gfmZ q n (qQq 0 (qQq (-1) 0))) i != 0))]
  refine List.map_congr_left fun p hp => ?_
  have hp := List.mem_range.1 hp
  rw [Nat.zero_add]
  unfold gfmZ
  rw [rd_p0, rd_p1, lz_rd _ _ (by omega)]
  have eb : (fun x : Nat => (x : Int) = -1) = fun _ => False := by funext x; simp
  rw [eb]
  by_cases h : Eng.Way (nxf q n) (fun _ => False) 0 p
  · rw [if_pos ⟨by omega, by omega, by simpa using h⟩]; simp [h]
  · rw [if_neg fun g => h (by simpa using g.2.2)]; simp [h]
theorem greach {cx : Cx} (hP : cx.P = Tryz.prog) (hN : NextC cx 75 3) : GReachC cx 37 4 := by
  refine ⟨fun oa n c q w h => ?_⟩
  have hx := nxok hP hN h
  rw [hP]
  rcases Nat.eq_zero_or_pos n with rfl | h0
  · refine (Reached_zero hx).mono ?_
    rintro e w' ⟨Bo, rfl, g, h1, h2, h3, h4⟩
    exact ⟨_, rfl, own_of_row h1 h2 (by omega), h3⟩
  · refine (Reached_ok hx h0).mono ?_
    rintro e w' ⟨Bo, rfl, g, h1, h2, h3, h4⟩
    refine ⟨_, rfl, ?_, h3⟩
    rw [reach_row h.le]
    have := own_of_row h1 h2 (by have := h.le; omega)
    refine Eq.mp (congrArg _ (List.map_congr_left fun p hp => ?_)) this
    have := h4 p (List.mem_range.1 hp)
    by_cases g1 : g p = true
    · rw [g1]; simp [this.1 g1]
    · have g2 : g p = false := by simpa using g1
      have g3 : ¬Eng.Way (nxf q n) (fun _ => False) 0 p := fun h => g1 (this.2 h)
      rw [g2]; simp [g3]
end
noncomputable def libGReach (Γ : List (Int × Int)) (ins : List InD) (n : Nat) : Sm1 := gReachT (cxG n Γ ins) 164 4
theorem libGReach_ok (hN : ∀ (n : Nat) (Γ : List (Int × Int)) (ins : List InD), NextC (cxG n Γ ins) 75 3) (Γ : List (Int × Int)) (ins : List InD) (n : Nat) : Sm1Ok (cxG n Γ ins) 37 (libGReach Γ ins n) := fun ρ β s s' w args r v hρ hs h hr => gReachT_ok (cx := cxG n Γ ins) (tabsG n Γ ins) hρ hs (greach rfl (hN n Γ ins)) (fun _ _ _ => rfl) h hr
end Go.Proofs.YtdnkgacjibjlhaaGreatDoor
