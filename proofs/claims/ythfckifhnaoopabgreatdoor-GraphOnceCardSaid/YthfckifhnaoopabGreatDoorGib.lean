/-
  Functions of Go's library at this program, by their contracts, as the engine takes them. Printed by program.
-/
import Derived.Test.YthfckifhnaoopabGreatDoorGab
import Derived.Test.YthfckifhnaoopabGreatDoorShelf
import Derived.Lib.Walk
import Derived.Lib.Small
import Derived.Lib.Tables
import Derived.OwnWalk
import Derived.Lib.SliceRun
import Derived.Deep.LoopGhost
import Derived.RangeFuncBox
import Derived.RangeFuncNested
import Derived.RangeFuncLeaves
import Derived.Shelf.Abstract
import Derived.Shelf.RegionOpen
import Derived.WalkKit
import Derived.OwnWalkIn
import Derived.TacticsInMore
import Derived.LoopNIn
import Derived.LoopIn
import Derived.Maps.OwnIn
import Derived.Maps.AppendAt
import Derived.Maps.RangeWalk
import Derived.Deep.OwnRows
import Derived.Laws.EntriesVeiled
import Derived.Deep.RegionHeld3
import Derived.Deep.RegionLaw
import Derived.Deep.AppendLies
import Derived.Test.YthfckifhnaoopabGreatDoorGp3
import Derived.Test.YthfckifhnaoopabGreatDoorGjb
set_option linter.unusedVariables false
set_option linter.unusedSimpArgs false
namespace Go.Proofs.YthfckifhnaoopabGreatDoor
open Go Go.Eng Go.RowKit
theorem sortC_ok : SortC Tryz.prog 27 := ⟨Tryz.slices_Sort_int, Tryz.slices_Sort_int_none⟩
noncomputable def libSort (Γ : List (Int × Int)) (ins : List InD) (n : Nat) : Sm1 := sortT (cxG n Γ ins) 42
theorem libSort_ok (Γ : List (Int × Int)) (ins : List InD) (n : Nat) : Sm1Ok (cxG n Γ ins) 27 (libSort Γ ins n) := fun ρ β s s' w args r v hρ hs h hr => sortT_ok (cx := cxG n Γ ins) sortC_ok (fun _ _ _ => rfl) ρ β s s' w args r v hρ hs h hr
theorem compC_ok : CompC Tryz.prog 28 := ⟨Tryz.slices_Compact_int, Tryz.slices_Compact_int_empty⟩
noncomputable def libComp (Γ : List (Int × Int)) (ins : List InD) (n : Nat) : Sm1 := compT (cxG n Γ ins) 43 44
theorem libComp_ok (Γ : List (Int × Int)) (ins : List InD) (n : Nat) : Sm1Ok (cxG n Γ ins) 28 (libComp Γ ins n) := fun ρ β s s' w args r v hρ hs h hr => compT_ok (cx := cxG n Γ ins) compC_ok (fun _ _ _ => rfl) (fun _ _ _ => rfl) ρ β s s' w args r v hρ hs h hr
noncomputable def libCompK (Γ : List (Int × Int)) (ins : List InD) (n : Nat) : Sm1 := compKT
theorem libCompK_ok (Γ : List (Int × Int)) (ins : List InD) (n : Nat) : Sm1Ok (cxG n Γ ins) 28 (libCompK Γ ins n) := fun ρ β s s' w args r v hρ hs h hr => compKT_ok (cx := cxG n Γ ins) compC_ok ρ β s s' w args r v hρ hs h hr
theorem tab8 (i : Nat) (h : i < Lib.len8tab.size) : (((Lib.len8tab[i]'h).toNat : Nat) : Int) = (Lib.bitLen i : Int) ∧ (Lib.bitLen i : Int) ≤ 8 := by
  have hs := Lib.len8tab_size
  have h1 := Lib.len8_of (i : Int) (by omega) (by omega)
  have h2 := Lib.bitLen_le8' (i : Int) (by omega) (by omega)
  rw [Int.toNat_natCast] at h1 h2
  refine ⟨?_, by omega⟩
  rw [← h1]
  simp [Lib.len8, h]

theorem l24 (x : Int) (h0 : 0 ≤ x) (h1 : x ≤ 4294967295) (h2 : 16777216 ≤ x) (h : (x / 65536 / 256).toNat < Lib.len8tab.size) : wrap64 (24 + wrap64 (((Lib.len8tab[(x / 65536 / 256).toNat]'h).toNat : Nat) : Int)) = (Lib.bitLen x.toNat : Int) := by
  obtain ⟨t1, t2⟩ := tab8 (x / 65536 / 256).toNat h
  rw [t1]
  have e : (x / 65536 / 256).toNat = x.toNat / 16777216 := by omega
  have s := Lib.bitLen_shift24 x.toNat (by omega) (by omega)
  rw [e] at t2 ⊢
  rw [s]
  generalize Lib.bitLen (x.toNat / 16777216) = m at t2
  clear e s t1 h h0 h1 h2
  simp only [wrap64]
  omega

theorem l16 (x : Int) (h0 : 0 ≤ x) (h1 : x ≤ 4294967295) (h2 : 65536 ≤ x) (h : (x / 65536).toNat < Lib.len8tab.size) : wrap64 (16 + wrap64 (((Lib.len8tab[(x / 65536).toNat]'h).toNat : Nat) : Int)) = (Lib.bitLen x.toNat : Int) := by
  obtain ⟨t1, t2⟩ := tab8 (x / 65536).toNat h
  rw [t1]
  have e : (x / 65536).toNat = x.toNat / 65536 := by omega
  have s := Lib.bitLen_shift16 x.toNat (by omega) (by omega)
  rw [e] at t2 ⊢
  rw [s]
  generalize Lib.bitLen (x.toNat / 65536) = m at t2
  clear e s t1 h h0 h1 h2
  simp only [wrap64]
  omega

theorem l8 (x : Int) (h0 : 0 ≤ x) (h1 : x ≤ 4294967295) (h2 : 256 ≤ x) (h : (x / 256).toNat < Lib.len8tab.size) : wrap64 (8 + wrap64 (((Lib.len8tab[(x / 256).toNat]'h).toNat : Nat) : Int)) = (Lib.bitLen x.toNat : Int) := by
  obtain ⟨t1, t2⟩ := tab8 (x / 256).toNat h
  rw [t1]
  have e : (x / 256).toNat = x.toNat / 256 := by omega
  have s := Lib.bitLen_shift8 x.toNat (by omega) (by omega)
  rw [e] at t2 ⊢
  rw [s]
  generalize Lib.bitLen (x.toNat / 256) = m at t2
  clear e s t1 h h0 h1 h2
  simp only [wrap64]
  omega

theorem l0 (x : Int) (h0 : 0 ≤ x) (h1 : x ≤ 4294967295) (h2 : 0 ≤ x) (h : x.toNat < Lib.len8tab.size) : wrap64 (wrap64 (((Lib.len8tab[x.toNat]'h).toNat : Nat) : Int)) = (Lib.bitLen x.toNat : Int) := by
  obtain ⟨t1, t2⟩ := tab8 x.toNat h
  rw [t1]
  generalize Lib.bitLen x.toNat = m at t2
  clear t1 h h0 h1 h2
  simp only [wrap64]
  omega

set_option maxHeartbeats 4000000 in
set_option maxRecDepth 100000 in
theorem len32 (x : Int) (w : World) (h0 : 0 ≤ x) (h1 : x ≤ 4294967295) :
    Calls Tryz.prog 69 #[.int .u32 x] w fun e w' => e = .returned (.int .i64 (Lib.bitLen x.toNat)) ∧ w' = w := by
  have hs := Lib.len8tab_size
  go_enter Tryz.func69, Tryz.ntmps69
  go_wp2
  all_goals first
    | (exfalso; omega)
    | skip
  all_goals (go_ret; refine ⟨congrArg Ending.returned (congrArg (Value.int IntKind.i64) ?_), rfl⟩)
  all_goals first
    | exact l24 x h0 h1 (by omega) _
    | exact l16 x h0 h1 (by omega) _
    | exact l8 x h0 h1 (by omega) _
    | exact l0 x h0 h1 (by omega) _

theorem k56 (x : Int) (h0 : 0 ≤ x) (h1 : x ≤ 18446744073709551615) (h2 : 72057594037927936 ≤ x) (h : (x / 4294967296 / 65536 / 256).toNat < Lib.len8tab.size) (hb : x / 4294967296 / 65536 / 256 ≤ 255) : wrap64 (56 + wrap64 (((Lib.len8tab[(x / 4294967296 / 65536 / 256).toNat]'h).toNat : Nat) : Int)) = (Lib.bitLen x.toNat : Int) := by
  obtain ⟨t1, t2⟩ := tab8 (x / 4294967296 / 65536 / 256).toNat h
  rw [t1]
  have e : (x / 4294967296 / 65536 / 256).toNat = x.toNat / 72057594037927936 := by omega
  have s := Lib.bitLen_shift 56 x.toNat (by omega) (by omega)
  rw [show (2 : Nat) ^ 56 = 72057594037927936 from rfl] at s
  rw [e] at t2 ⊢
  rw [s]
  generalize Lib.bitLen (x.toNat / 72057594037927936) = m at t2
  clear e s t1 h h0 h1 h2
  simp only [wrap64]
  omega

theorem k48 (x : Int) (h0 : 0 ≤ x) (h1 : x ≤ 18446744073709551615) (h2 : 281474976710656 ≤ x) (h : (x / 4294967296 / 65536).toNat < Lib.len8tab.size) (hb : x / 4294967296 / 65536 ≤ 255) : wrap64 (48 + wrap64 (((Lib.len8tab[(x / 4294967296 / 65536).toNat]'h).toNat : Nat) : Int)) = (Lib.bitLen x.toNat : Int) := by
  obtain ⟨t1, t2⟩ := tab8 (x / 4294967296 / 65536).toNat h
  rw [t1]
  have e : (x / 4294967296 / 65536).toNat = x.toNat / 281474976710656 := by omega
  have s := Lib.bitLen_shift 48 x.toNat (by omega) (by omega)
  rw [show (2 : Nat) ^ 48 = 281474976710656 from rfl] at s
  rw [e] at t2 ⊢
  rw [s]
  generalize Lib.bitLen (x.toNat / 281474976710656) = m at t2
  clear e s t1 h h0 h1 h2
  simp only [wrap64]
  omega

theorem k40 (x : Int) (h0 : 0 ≤ x) (h1 : x ≤ 18446744073709551615) (h2 : 1099511627776 ≤ x) (h : (x / 4294967296 / 256).toNat < Lib.len8tab.size) (hb : x / 4294967296 / 256 ≤ 255) : wrap64 (40 + wrap64 (((Lib.len8tab[(x / 4294967296 / 256).toNat]'h).toNat : Nat) : Int)) = (Lib.bitLen x.toNat : Int) := by
  obtain ⟨t1, t2⟩ := tab8 (x / 4294967296 / 256).toNat h
  rw [t1]
  have e : (x / 4294967296 / 256).toNat = x.toNat / 1099511627776 := by omega
  have s := Lib.bitLen_shift 40 x.toNat (by omega) (by omega)
  rw [show (2 : Nat) ^ 40 = 1099511627776 from rfl] at s
  rw [e] at t2 ⊢
  rw [s]
  generalize Lib.bitLen (x.toNat / 1099511627776) = m at t2
  clear e s t1 h h0 h1 h2
  simp only [wrap64]
  omega

theorem k32 (x : Int) (h0 : 0 ≤ x) (h1 : x ≤ 18446744073709551615) (h2 : 4294967296 ≤ x) (h : (x / 4294967296).toNat < Lib.len8tab.size) (hb : x / 4294967296 ≤ 255) : wrap64 (32 + wrap64 (((Lib.len8tab[(x / 4294967296).toNat]'h).toNat : Nat) : Int)) = (Lib.bitLen x.toNat : Int) := by
  obtain ⟨t1, t2⟩ := tab8 (x / 4294967296).toNat h
  rw [t1]
  have e : (x / 4294967296).toNat = x.toNat / 4294967296 := by omega
  have s := Lib.bitLen_shift 32 x.toNat (by omega) (by omega)
  rw [show (2 : Nat) ^ 32 = 4294967296 from rfl] at s
  rw [e] at t2 ⊢
  rw [s]
  generalize Lib.bitLen (x.toNat / 4294967296) = m at t2
  clear e s t1 h h0 h1 h2
  simp only [wrap64]
  omega

theorem k24 (x : Int) (h0 : 0 ≤ x) (h1 : x ≤ 18446744073709551615) (h2 : 16777216 ≤ x) (h : (x / 65536 / 256).toNat < Lib.len8tab.size) (hb : x / 65536 / 256 ≤ 255) : wrap64 (24 + wrap64 (((Lib.len8tab[(x / 65536 / 256).toNat]'h).toNat : Nat) : Int)) = (Lib.bitLen x.toNat : Int) := by
  obtain ⟨t1, t2⟩ := tab8 (x / 65536 / 256).toNat h
  rw [t1]
  have e : (x / 65536 / 256).toNat = x.toNat / 16777216 := by omega
  have s := Lib.bitLen_shift 24 x.toNat (by omega) (by omega)
  rw [show (2 : Nat) ^ 24 = 16777216 from rfl] at s
  rw [e] at t2 ⊢
  rw [s]
  generalize Lib.bitLen (x.toNat / 16777216) = m at t2
  clear e s t1 h h0 h1 h2
  simp only [wrap64]
  omega

theorem k16 (x : Int) (h0 : 0 ≤ x) (h1 : x ≤ 18446744073709551615) (h2 : 65536 ≤ x) (h : (x / 65536).toNat < Lib.len8tab.size) (hb : x / 65536 ≤ 255) : wrap64 (16 + wrap64 (((Lib.len8tab[(x / 65536).toNat]'h).toNat : Nat) : Int)) = (Lib.bitLen x.toNat : Int) := by
  obtain ⟨t1, t2⟩ := tab8 (x / 65536).toNat h
  rw [t1]
  have e : (x / 65536).toNat = x.toNat / 65536 := by omega
  have s := Lib.bitLen_shift 16 x.toNat (by omega) (by omega)
  rw [show (2 : Nat) ^ 16 = 65536 from rfl] at s
  rw [e] at t2 ⊢
  rw [s]
  generalize Lib.bitLen (x.toNat / 65536) = m at t2
  clear e s t1 h h0 h1 h2
  simp only [wrap64]
  omega

theorem k8 (x : Int) (h0 : 0 ≤ x) (h1 : x ≤ 18446744073709551615) (h2 : 256 ≤ x) (h : (x / 256).toNat < Lib.len8tab.size) (hb : x / 256 ≤ 255) : wrap64 (8 + wrap64 (((Lib.len8tab[(x / 256).toNat]'h).toNat : Nat) : Int)) = (Lib.bitLen x.toNat : Int) := by
  obtain ⟨t1, t2⟩ := tab8 (x / 256).toNat h
  rw [t1]
  have e : (x / 256).toNat = x.toNat / 256 := by omega
  have s := Lib.bitLen_shift 8 x.toNat (by omega) (by omega)
  rw [show (2 : Nat) ^ 8 = 256 from rfl] at s
  rw [e] at t2 ⊢
  rw [s]
  generalize Lib.bitLen (x.toNat / 256) = m at t2
  clear e s t1 h h0 h1 h2
  simp only [wrap64]
  omega

theorem k0 (x : Int) (h0 : 0 ≤ x) (h1 : x ≤ 18446744073709551615) (h : x.toNat < Lib.len8tab.size) (hb : x ≤ 255) : wrap64 (wrap64 (((Lib.len8tab[x.toNat]'h).toNat : Nat) : Int)) = (Lib.bitLen x.toNat : Int) := by
  obtain ⟨t1, t2⟩ := tab8 x.toNat h
  rw [t1]
  generalize Lib.bitLen x.toNat = m at t2
  clear t1 h h0 h1
  simp only [wrap64]
  omega

set_option maxHeartbeats 8000000 in
set_option maxRecDepth 100000 in
theorem len64 (x : Int) (w : World) (h0 : 0 ≤ x) (h1 : x ≤ 18446744073709551615) :
    Calls Tryz.prog 70 #[.int .u64 x] w fun e w' => e = .returned (.int .i64 (Lib.bitLen x.toNat)) ∧ w' = w := by
  have hs := Lib.len8tab_size
  go_enter Tryz.func70, Tryz.ntmps70
  go_wp2
  all_goals first
    | (exfalso; omega)
    | skip
  all_goals (go_ret; refine ⟨congrArg Ending.returned (congrArg (Value.int IntKind.i64) ?_), rfl⟩)
  all_goals first
    | exact k56 x h0 h1 (by omega) _ (by omega)
    | exact k48 x h0 h1 (by omega) _ (by omega)
    | exact k40 x h0 h1 (by omega) _ (by omega)
    | exact k32 x h0 h1 (by omega) _ (by omega)
    | exact k24 x h0 h1 (by omega) _ (by omega)
    | exact k16 x h0 h1 (by omega) _ (by omega)
    | exact k8 x h0 h1 (by omega) _ (by omega)
    | exact k0 x h0 h1 _ (by omega)

noncomputable def libLen32 (Γ : List (Int × Int)) (ins : List InD) (n : Nat) : Sm1 := told1 (gLen (cxG n Γ ins))
theorem libLen32_ok (Γ : List (Int × Int)) (ins : List InD) (n : Nat) : Sm1Ok (cxG n Γ ins) 69 (libLen32 Γ ins n) := fun ρ β s s' w args r v hρ hs h hr => told1_ok (cx := cxG n Γ ins) (gLen_ok rfl fun x w h0 h1 => len32 x w h0 h1) ρ β s s' w args r v hρ hs h hr
noncomputable def libLen64 (Γ : List (Int × Int)) (ins : List InD) (n : Nat) : Sm1 := told1 (gLen64 (cxG n Γ ins))
theorem libLen64_ok (Γ : List (Int × Int)) (ins : List InD) (n : Nat) : Sm1Ok (cxG n Γ ins) 70 (libLen64 Γ ins n) := fun ρ β s s' w args r v hρ hs h hr => told1_ok (cx := cxG n Γ ins) (gLen64_ok rfl fun x w h0 h1 => len64 x w h0 h1) ρ β s s' w args r v hρ hs h hr
section
open Go.Lib
set_option maxHeartbeats 2000000 in
set_option maxRecDepth 100000 in
theorem clone41_row (a : Addr) (n c : Nat) (xs : List Value) (w : World) (hl : xs.length = n * 3) (hc : ∀ (j : Nat) u, xs[j]? = some u → w.cell? (a.add j) = some u) (h1 : ∀ u ∈ xs, u.oneCell' = true) (hm : n ≤ maxLen) (hb : n * 24 ≤ 140737488355328) :
    Calls Tryz.prog 41 #[.slice (some a) n c] w fun e w' => ∃ v', e = .returned v' ∧ w'.ownsRow w.heap.size 30 3 v' n xs ∧ v' ≠ .slice none 0 0 ∧ Below w.heap.size w w' := by
  obtain ⟨i0, hi, hz0, hz1, hz2⟩ := info_parts (P := Tryz.prog) (e := 30) (z := .agg #[.int .i64 0, .int .i64 0, .int .i64 0]) (size := 3) (bytes := 24) (by kernel_rfl)
  have q22 : ∀ (w : World) (a : Option Addr) (n c n' c' : Nat), (binOp .eql 26 (.slice a n c) (.slice none n' c')).run Tryz.prog w = .ok (.bool a.isNone) w := fun w a n c n' c' => Lib.run_eql_slice_nil w _ _ a n c n' c' Tryz.underlying26
  have u22 : ∀ w, Sem.run Tryz.prog (underlying 26) w = .ok (TypeDesc.slice 30) w := run_underlying Tryz.underlying26
  have A : Aside (∀ (j : Nat) u, xs[j]? = some u → w.cell? (a.add j) = some u) := hc
  clear hc
  go_enter Tryz.func41, Tryz.ntmps41
  go_wp2_with (at_builtin; refine wpList_append_own _ rfl _ _ 26 rfl w.heap.size 30 i0 (.agg #[.int .i64 0, .int .i64 0, .int .i64 0]) 3 24 Tryz.underlying26 hi hz0 hz1 hz2 rfl (by decide) _ _ _ rfl (World.ownsRow_made w #[] 0 (Nat.le_refl _) (Nat.zero_le _) rfl) a n c xs rfl ?qc1 ?qc2 ?qc3 ?qc4 ?qc5 ?qc6 ?_)
  case qc1 => exact hl
  case qc2 =>
    intro j u hj
    exact Lib.cell?_alloc_some _ (A.out j u hj)
  case qc3 => exact h1
  case qc4 => omega
  case qc5 => omega
  case qc6 => simp
  intro v' w1 hown hgrow hnil
  go_wp2
  go_ret
  refine ⟨v', rfl, by simpa using hown, ?_, ?_⟩
  · first | exact hnil | (intro e; exact absurd (hnil.1 e).1 (by simp))
  · exact ((Below.refl _ w).alloc (Nat.le_refl _) _).grown hgrow (by simp) (by intro k hk; simp [Value.ownBlock] at hk; omega)
set_option maxHeartbeats 1000000 in
theorem clone41_nil (n c : Nat) (w : World) :
    Calls Tryz.prog 41 #[.slice none n c] w fun e w' => e = .returned (.slice none 0 0) ∧ w' = w := by
  have q22 : ∀ (w : World) (a : Option Addr) (n c n' c' : Nat), (binOp .eql 26 (.slice a n c) (.slice none n' c')).run Tryz.prog w = .ok (.bool a.isNone) w := fun w a n c n' c' => Lib.run_eql_slice_nil w _ _ a n c n' c' Tryz.underlying26
  go_enter Tryz.func41, Tryz.ntmps41
  go_wp2
  go_ret
  exact ⟨rfl, rfl⟩
theorem clone41C : CloneC Tryz.prog 41 30 3 24 := ⟨clone41_nil, clone41_row⟩
noncomputable def libClone41 (Γ : List (Int × Int)) (ins : List InD) (n : Nat) : Sm1 := cloneT (cxG n Γ ins) [.int .i64, .int .i64, .int .i64] 30
theorem libClone41_ok (Γ : List (Int × Int)) (ins : List InD) (n : Nat) : Sm1Ok (cxG n Γ ins) 41 (libClone41 Γ ins n) := fun ρ β s s' w args r v hρ hs h hr => cloneT_ok (cx := cxG n Γ ins) (cks := [.int .i64, .int .i64, .int .i64]) (bytes := 24) clone41C (by decide) ρ β s s' w args r v hρ hs h hr
end
section
open Go.RowKit Go.Shelf Go.Eng
attribute [local go_sem] Oper.semAt_some
/-- the set of all places below n -/
theorem all_bit (n q : Nat) : (2 ^ n - 1).testBit q = true ↔ q < n := by simp [Nat.testBit_two_pow_sub_one]
set_option maxRecDepth 100000 in
set_option maxHeartbeats 1000000 in
theorem all_ok (n : Nat) (hn : n ≤ 64) (hn0 : 0 < n) (w : World) : Calls Tryz.prog 48 #[.int .i64 n] w fun e w' => e = .returned (.slice (some ⟨w.heap.size, 0, none⟩) 1 1) ∧ Wd w' w.heap.size (2 ^ n - 1) ∧ Below w.heap.size w w' := by
  have hd : (n + 63) / 64 = 1 := by omega
  go_enter Tryz.func48, Tryz.ntmps48
  go_wp2_with (first
    | (go_at_call 34; refine (none_ok n _ (by omega)).mono ?_; rintro e w2 ⟨rfl, rfl⟩; rw [hd])
    | fail)
  go_loopw [8] (fun v wr => ∃ (p x : Nat), p ≤ n ∧ v = .int .i64 (p : Nat) ∧ Wd wr w.heap.size x ∧ (∀ q, x.testBit q = true ↔ q < p) ∧ Below w.heap.size w wr) (fun v _ => n - (intOf v).toNat)
  case atStart =>
    refine ⟨0, 0, Nat.zero_le _, rfl, ⟨?_, by decide⟩, by simp, (Below.refl _ w).alloc (Nat.le_refl _) _⟩
    exact (World.alloc_heap_new w _).trans (congrArg some (congrArg (fun c => Obj.cells c 71) made1))
  case round =>
    obtain ⟨p, x, hp, rfl, hW, hx, hB⟩ := hrel
    by_cases hlt : p < n
    · go_wp2_with (first
        | (go_at_call 35; refine (put_ok _ 1 p x _ hW (by omega)).mono ?_; rintro e w2 ⟨⟨v, rfl⟩, hW2, hg2⟩)
        | fail)
      go_roundw
      case rel =>
        refine ⟨p + 1, _, hlt, by simp, hW2, fun q => ?_, hB.grown hg2 hB.size (fun k hk => by cases hk; exact Nat.le_refl _)⟩
        rw [Nat.testBit_or, Nat.testBit_two_pow]
        simp only [Bool.or_eq_true, decide_eq_true_eq, hx]
        omega
      case measure =>
        show n - (intOf (Value.int .i64 ((p + 1 : Nat) : Int))).toNat < n - (intOf (Value.int .i64 (p : Nat))).toNat
        simp only [intOf, Int.toNat_natCast]
        omega
    · have e : p = n := by omega
      subst e
      have ex : x = 2 ^ p - 1 := Nat.eq_of_testBit_eq fun q => Bool.eq_iff_iff.2 ((hx q).trans (all_bit p q).symm)
      subst ex
      go_wp2
      go_ret
      exact ⟨rfl, hW, hB⟩
set_option maxRecDepth 100000 in
set_option maxHeartbeats 1000000 in
theorem meet_ok (B C x y c d : Nat) (w : World) (hx : Wd w B x) (hy : Wd w C y) : Calls Tryz.prog 49 #[.slice (some ⟨B, 0, none⟩) 1 c, .slice (some ⟨C, 0, none⟩) 1 d] w fun e w' => (∃ v, e = .returned v) ∧ Wd w' B (x &&& y) ∧ w.grownBy w' (some B) := by
  go_enter Tryz.func49, Tryz.ntmps49
  go_wp2
  go_loopw [7] (fun v wr => (v = .int .i64 0 ∧ wr = w) ∨ (v = .int .i64 1 ∧ Wd wr B (x &&& y) ∧ w.grownBy wr (some B))) (fun v _ => 1 - (intOf v).toNat)
  case atStart => exact .inl ⟨rfl, rfl⟩
  case round =>
    rcases hrel with ⟨rfl, rfl⟩ | ⟨rfl, hW, hg⟩
    · have c0 := hx.cell
      have c1 := hy.cell
      have f0 := hx.soft
      have hb := bitsAnd hx.2 hy.2
      go_wp2_with fail
      go_region
      all_goals
        have hW2 := hx.set (Nat.and_lt_two_pow x hy.2)
        have hG2 := hx.grew (.int .u64 ((x &&& y : Nat) : Int))
        clear hb
        go_wp2
        go_roundw
        case rel => exact .inr ⟨rfl, hW2, ⟨hG2.os, hG2.tape, hG2.output, hG2.size, hG2.block⟩⟩
        case measure => simp [intOf]
    · go_wp2
      go_end0
      exact ⟨⟨_, rfl⟩, hW, hg⟩
set_option maxRecDepth 100000 in
set_option maxHeartbeats 1000000 in
theorem same_ok (B C x y c d : Nat) (w : World) (hx : Wd w B x) (hy : Wd w C y) : Calls Tryz.prog 50 #[.slice (some ⟨B, 0, none⟩) 1 c, .slice (some ⟨C, 0, none⟩) 1 d] w fun e w' => e = .returned (.bool (decide (x = y))) ∧ Below w.heap.size w w' := by
  go_enter Tryz.func50, Tryz.ntmps50
  go_wp2
  go_loopw [13] (fun v wr => (v = .int .i64 0 ∧ wr = w) ∨ (v = .int .i64 1 ∧ x = y ∧ Below w.heap.size w wr)) (fun v _ => 1 - (intOf v).toNat)
  case atStart => exact .inl ⟨rfl, rfl⟩
  case round =>
    rcases hrel with ⟨rfl, rfl⟩ | ⟨rfl, hxy, hg⟩
    · have c0 := hx.cell
      have c1 := hy.cell
      have hB : Below wr.heap.size wr wr.drew := (Below.refl _ wr).drew
      by_cases e : x = y
      · go_wp2_with fail
        go_region
        all_goals
          go_wp2
          go_roundw
          case rel => exact .inr ⟨rfl, e, hB⟩
          case measure => simp [intOf]
      · have hne : ¬ (x : Int) = (y : Int) := fun h => e (Int.ofNat.inj h)
        go_wp2_with fail
        go_region
        all_goals
          go_wp2
          go_ret
          exact ⟨by simp [e], hB⟩
    · go_wp2
      go_ret
      exact ⟨by simp [hxy], hg⟩
def vSet (b : Nat) : Value := .slice (some ⟨b, 0, none⟩) 1 1
/-- a row of sets: those that P tells are there -/
structure Ah (w W : World) (Bo n : Nat) (f : Nat → Value) (P : Nat → Prop) (bs x : Nat → Nat) : Prop where
  row : W.rowIs Bo 65 n f
  val : ∀ p, p < n → P p → f p = vSet (bs p)
  wd : ∀ p, p < n → P p → Wd W (bs p) (x p)
  base : w.heap.size ≤ Bo
  below : Below w.heap.size w W
theorem Ah.kept {w W W' : World} {Bo n : Nat} {f : Nat → Value} {P : Nat → Prop} {bs x : Nat → Nat} (h : Ah w W Bo n f P bs x) (hb : Below W.heap.size W W') : Ah w W' Bo n f P bs x :=
  ⟨rowIs_kept h.row (below_grown hb) (by simp), h.val, fun p hp hP => (h.wd p hp hP).kept (below_grown hb) (by simp), h.base, h.below.trans (hb.mono h.below.size)⟩
/-- another set is written -/
theorem Ah.far {w W W' : World} {Bo n B : Nat} {f : Nat → Value} {P : Nat → Prop} {bs x : Nat → Nat} (h : Ah w W Bo n f P bs x) (hg : W.grownBy W' (some B)) (h1 : B ≠ Bo) (h2 : ∀ p, p < n → P p → B ≠ bs p) (h3 : w.heap.size ≤ B) : Ah w W' Bo n f P bs x :=
  ⟨rowIs_kept h.row hg (fun e => h1 (Option.some.inj e).symm), h.val, fun p hp hP => (h.wd p hp hP).kept hg (fun e => h2 p hp hP (Option.some.inj e).symm), h.base, h.below.grown hg h.below.size fun k hk => by cases hk; exact h3⟩
theorem Wd.neRow {W : World} {B x Bo n : Nat} {f : Nat → Value} (h : Wd W B x) (hr : W.rowIs Bo 65 n f) : B ≠ Bo := fun e => by
  obtain ⟨C, hC⟩ := row_blk hr
  have := h.1
  rw [e, hC] at this
  simp at this
/-- a set is stored -/
theorem Ah.put {w W : World} {Bo n p B y : Nat} {f : Nat → Value} {P : Nat → Prop} {bs x : Nat → Nat} (h : Ah w W Bo n f P bs x) (hw : Wd W B y) :
    Ah w (W.setCell ⟨Bo, p, none⟩ (vSet B)) Bo n (fun j => if j = p then vSet B else f j) (fun j => P j ∨ j = p) (fun j => if j = p then B else bs j) (fun j => if j = p then y else x j) := by
  have hs := grown_cell W Bo p (vSet B)
  refine ⟨h.row.set p _, fun j hj hP => ?_, fun j hj hP => ?_, h.base, h.below.setCell (p := ⟨Bo, p, none⟩) h.base _⟩
  · by_cases e : j = p
    · subst e; simp
    · simp only [if_neg e]; exact h.val j hj (hP.resolve_right e)
  · by_cases e : j = p
    · subst e
      simp only [if_true]
      exact hw.kept hs (fun e => hw.neRow h.row (Option.some.inj e))
    · simp only [if_neg e]
      have k := h.wd j hj (hP.resolve_right e)
      exact k.kept hs (fun e => k.neRow h.row (Option.some.inj e))
theorem Ah.as {w W : World} {Bo n : Nat} {f : Nat → Value} {P P' : Nat → Prop} {bs x x' : Nat → Nat} (h : Ah w W Bo n f P bs x) (hP : ∀ p, p < n → P' p → P p) (hx : ∀ p, p < n → P' p → x p = x' p) : Ah w W Bo n f P' bs x' :=
  ⟨h.row, fun p hp k => h.val p hp (hP p hp k), fun p hp k => by rw [← hx p hp k]; exact h.wd p hp (hP p hp k), h.base, h.below⟩
/-- how many places a word has -/
def card (n x : Nat) : Nat := ((List.range n).filter fun q => x.testBit q).length
theorem card_lt {n x y a : Nat} (h : ∀ q, y.testBit q = true → x.testBit q = true) (ha : a < n) (hx : x.testBit a = true) (hy : y.testBit a = false) : card n y < card n x := by
  unfold card
  obtain ⟨l1, l2, e⟩ := List.append_of_mem (List.mem_range.2 ha)
  have hm : ∀ l : List Nat, (l.filter fun q => y.testBit q).length ≤ (l.filter fun q => x.testBit q).length := fun l => by
    simp only [← List.countP_eq_length_filter]
    exact List.countP_mono_left fun q _ => h q
  rw [e]
  simp only [List.filter_append, List.length_append, List.filter_cons, hx, hy, if_true, List.length_cons, Bool.false_eq_true, if_false]
  have := hm l1
  have := hm l2
  omega
def wordAt (W : World) (Bo p : Nat) : Nat := match W.cell? ⟨Bo, p, none⟩ with
  | some (.slice (some a) _ _) => (match W.cell? a with | some (.int _ x) => x.toNat | _ => 0)
  | _ => 0
def tot (W : World) (Bo n : Nat) : Nat := ((List.range n).map fun p => card n (wordAt W Bo p)).sum
theorem Ah.word {w W : World} {Bo n p : Nat} {f : Nat → Value} {P : Nat → Prop} {bs x : Nat → Nat} (h : Ah w W Bo n f P bs x) (hp : p < n) (hP : P p) : wordAt W Bo p = x p := by
  have c := h.row.cell hp
  rw [h.val p hp hP] at c
  have d := (h.wd p hp hP).cell
  unfold wordAt
  rw [c]
  simp only [vSet]
  rw [d]
  simp
theorem Ah.tot {w W : World} {Bo n : Nat} {f : Nat → Value} {P : Nat → Prop} {bs x : Nat → Nat} (h : Ah w W Bo n f P bs x) (hP : ∀ p, p < n → P p) : tot W Bo n = ((List.range n).map fun p => card n (x p)).sum := by
  unfold Go.Proofs.YthfckifhnaoopabGreatDoor.tot
  congr 1
  refine List.map_congr_left fun p hp => ?_
  rw [h.word (List.mem_range.1 hp) (hP p (List.mem_range.1 hp))]
theorem sum_lt {n p : Nat} {g g' : Nat → Nat} (hp : p < n) (h : ∀ j, j < n → g' j ≤ g j) (hl : g' p < g p) : ((List.range n).map g').sum < ((List.range n).map g).sum := by
  induction n with
  | zero => omega
  | succ n ih =>
    rw [List.range_succ, List.map_append, List.map_append, List.sum_append, List.sum_append]
    simp only [List.map_cons, List.map_nil, List.sum_cons, List.sum_nil, Nat.add_zero]
    by_cases e : p = n
    · subst e
      have : ∀ m, m ≤ p → ((List.range m).map g').sum ≤ ((List.range m).map g).sum := fun m hm => by
        induction m with
        | zero => simp
        | succ m ihm =>
          rw [List.range_succ, List.map_append, List.map_append, List.sum_append, List.sum_append]
          simp only [List.map_cons, List.map_nil, List.sum_cons, List.sum_nil, Nat.add_zero]
          have := ihm (by omega)
          have := h m (by omega)
          omega
      have := this p (Nat.le_refl _)
      omega
    · have := ih (by omega) fun j hj => h j (by omega)
      have := h n (by omega)
      omega
/-- one place is set anew -/
def stepX (nx : Nat → List Nat) (n p : Nat) (x : Nat → Nat) (y : Nat) : Prop := ∀ a, y.testBit a = true ↔ (a = p ∨ (a < n ∧ ∀ q, Eng.Way nx (fun _ => False) 0 q → p ∈ nx q → (x q).testBit a = true))
/-- what holds of the sets in every round -/
structure Dx (nx : Nat → List Nat) (n : Nat) (x : Nat → Nat) : Prop where
  zero : ∀ a, (x 0).testBit a = true ↔ a = 0
  low : ∀ p a, p < n → (x p).testBit a = true → a < n
  dom : ∀ p a, Eng.Way nx (fun _ => False) 0 p → Dmn nx n a p → (x p).testBit a = true
  post : ∀ p a, p < n → p ≠ 0 → (a = p ∨ (a < n ∧ ∀ q, Eng.Way nx (fun _ => False) 0 q → p ∈ nx q → (x q).testBit a = true)) → (x p).testBit a = true
theorem Dx.step {nx : Nat → List Nat} {n p y : Nat} {x : Nat → Nat} (h : Dx nx n x) (hp : p < n) (p0 : p ≠ 0) (hr : Eng.Way nx (fun _ => False) 0 p) (hy : stepX nx n p x y) : Dx nx n (fun j => if j = p then y else x j) ∧ (∀ q, y.testBit q = true → (x p).testBit q = true) := by
  have hs : ∀ q, y.testBit q = true → (x p).testBit q = true := fun q hq => h.post p q hp p0 ((hy q).1 hq)
  have hmono : ∀ q a, (if q = p then y else x q).testBit a = true → (x q).testBit a = true := fun q a hq => by
    by_cases e : q = p
    · subst e; rw [if_pos rfl] at hq; exact hs a hq
    · rwa [if_neg e] at hq
  refine ⟨⟨fun a => ?_, fun j a hj ha => h.low j a hj (hmono j a ha), fun j a hw hd => ?_, fun j a hj j0 ha => ?_⟩, hs⟩
  · simp only [if_neg (Ne.symm p0)]; exact h.zero a
  · by_cases e : j = p
    · subst e
      simp only [if_true]
      refine (hy a).2 ?_
      by_cases ea : a = j
      · exact .inl ea
      · refine .inr ⟨?_, fun q hq hjq => h.dom q a hq (dmn_step hjq hd ea)⟩
        rcases hd with hd | hd
        · exact absurd hd ea
        · exact hd.1
    · simp only [if_neg e]; exact h.dom j a hw hd
  · have ha' : a = j ∨ (a < n ∧ ∀ q, Eng.Way nx (fun _ => False) 0 q → j ∈ nx q → (x q).testBit a = true) := ha.imp id fun k => ⟨k.1, fun q h1 h2 => hmono q a (k.2 q h1 h2)⟩
    by_cases e : j = p
    · subst e
      simp only [if_true]
      exact (hy a).2 ha'
    · simp only [if_neg e]; exact h.post j a hj j0 ha'
theorem noBar {nx : Nat → List Nat} {a q : Nat} : Eng.Way nx (fun _ => false = true) a q ↔ Eng.Way nx (fun _ => False) a q := by
  have : (fun _ : Nat => false = true) = fun _ => False := by funext _; simp
  rw [this]
theorem free_ok' (W : World) (q : Nat) : Calls Tryz.prog 33 (#[.int .i64 (q : Nat)] ++ #[]) W fun e w' => e = .returned (.bool false) ∧ w' = W := free_ok _ W
theorem spread0_ok {R : Addr} {cR n : Nat} {nx : Nat → List Nat} (hn : n ≤ 64) (hn0 : 0 < n) (hnx : ∀ p, ∀ q ∈ nx p, q < n) (hnl : ∀ p, (nx p).length ≤ 1000) (w : World) (hR : Rws0 w R n nx) :
    Calls Tryz.prog 32 #[.slice (some R) n cR, .int .i64 0, .func (.func 33) #[] #[]] w fun e w' => ∃ B x, e = .returned (.slice (some ⟨B, 0, none⟩) 1 1) ∧ Wd w' B x ∧ w.heap.size ≤ B ∧ Below w.heap.size w w' ∧ ∀ q, x.testBit q = true ↔ Eng.Way nx (fun _ => False) 0 q := by
  refine (spread_ok (fb := 33) (caps := #[]) (br := fun _ => false) hn hn0 hnx hnl 0 (by omega) w hR (fun args w => (enters_of Tryz.func33 (by kernel_rfl) rfl) args w) (fun W' _ q _ => free_ok' W' q)).mono ?_
  rintro e w' ⟨B, rfl, x, h1, h2, h3, h4⟩
  exact ⟨B, x, rfl, h1, h2, h3, fun q => (h4 q).trans ⟨fun h => noBar.1 h.2.2, fun h => ⟨by omega, by omega, noBar.2 h⟩⟩⟩
theorem Dx.start {nx : Nat → List Nat} {n : Nat} (hn0 : 0 < n) (hnx : ∀ p, ∀ q ∈ nx p, q < n) : Dx nx n fun p => if p = 0 then 1 else 2 ^ n - 1 := by
  have one : ∀ a, Nat.testBit 1 a = true ↔ a = 0 := fun a => by
    have := Nat.testBit_two_pow (n := 0) (m := a)
    simp only [Nat.pow_zero] at this
    rw [this]; simp [eq_comm]
  refine ⟨fun a => one a, fun p a hp ha => ?_, fun p a hw hd => ?_, fun p a hp p0 ha => ?_⟩
  · by_cases e : p = 0
    · rw [if_pos e] at ha; have := (one a).1 ha; omega
    · rw [if_neg e] at ha; exact (all_bit n a).1 ha
  · by_cases e : p = 0
    · subst e
      simp only [if_true]
      refine (one a).2 ?_
      rcases hd with h | h
      · exact h
      · exact Classical.byContradiction fun k => h.2 (.here fun e => k e.symm)
    · simp only [if_neg e]
      refine (all_bit n a).2 ?_
      rcases hd with h | h
      · subst h; exact hw.lt hnx hn0
      · exact h.1
  · simp only [if_neg p0]
    refine (all_bit n a).2 ?_
    rcases ha with h | h
    · omega
    · exact h.1
theorem Ah.first {w W W' : World} {Bo n B : Nat} {f : Nat → Value} {P : Nat → Prop} {bs x : Nat → Nat} (h : Ah w W Bo n f P bs x) (hn0 : 0 < n) (hP : P 0) (hB : bs 0 = B) (hg : W.grownBy W' (some B)) (hy : Wd W' B 1) (hlo : w.heap.size ≤ B) : Ah w W' Bo n f (· < 1) bs (fun p => if p = 0 then 1 else 2 ^ n - 1) := by
  have hw := h.wd 0 hn0 hP
  rw [hB] at hw
  refine ⟨rowIs_kept h.row hg (fun e => hw.neRow h.row (Option.some.inj e).symm), fun p hp hp1 => ?_, fun p hp hp1 => ?_, h.base, h.below.grown hg h.below.size fun k hk => by cases hk; exact hlo⟩
  · have : p = 0 := by omega
    subst this; exact h.val 0 hn0 hP
  · have : p = 0 := by omega
    subst this; rw [hB]; exact hy
theorem setWord {W : World} : (W.alloc (.cells (madeCells #[.int .u64 0] 1) 71)).heap[W.heap.size]? = some (.cells #[.int .u64 ((0 : Nat) : Int)] 71 (0, 0)) := (World.alloc_heap_new W _).trans (congrArg some (congrArg (fun c => Obj.cells c 71) made1))
def bOf : Value → Nat | .bool true => 1 | _ => 0
theorem zero_step {w W W3 : World} {Bo n : Nat} {f : Nat → Value} {P : Nat → Prop} {bs x : Nat → Nat} {y : Nat} (h : Ah w W Bo n f P bs x) (hi : 0 < n) (hW3 : Wd W3 W.heap.size y) (hB3 : Below W.heap.size W W3) :
    ((W3.setCell ⟨Bo, 0, none⟩ (.slice (some ⟨W.heap.size, 0, none⟩) 1 1)).alloc (.cells (madeCells #[.int .u64 0] 1) 71)).cell? ⟨Bo, 0, none⟩ = some (.slice (some ⟨W.heap.size, 0, none⟩) 1 1) ∧
    ((W3.setCell ⟨Bo, 0, none⟩ (.slice (some ⟨W.heap.size, 0, none⟩) 1 1)).alloc (.cells (madeCells #[.int .u64 0] 1) 71)).frozen? ⟨Bo, 0, none⟩ = false ∧
    (((W3.setCell ⟨Bo, 0, none⟩ (.slice (some ⟨W.heap.size, 0, none⟩) 1 1)).alloc (.cells (madeCells #[.int .u64 0] 1) 71)).setCell ⟨Bo, 0, none⟩ (.slice (some ⟨W3.heap.size, 0, none⟩) 1 1)).cell? ⟨Bo, 0, none⟩ = some (.slice (some ⟨W3.heap.size, 0, none⟩) 1 1) ∧
    Wd (((W3.setCell ⟨Bo, 0, none⟩ (.slice (some ⟨W.heap.size, 0, none⟩) 1 1)).alloc (.cells (madeCells #[.int .u64 0] 1) 71)).setCell ⟨Bo, 0, none⟩ (.slice (some ⟨W3.heap.size, 0, none⟩) 1 1)) W3.heap.size 0 ∧
    ∃ f', Ah w (((W3.setCell ⟨Bo, 0, none⟩ (.slice (some ⟨W.heap.size, 0, none⟩) 1 1)).alloc (.cells (madeCells #[.int .u64 0] 1) 71)).setCell ⟨Bo, 0, none⟩ (.slice (some ⟨W3.heap.size, 0, none⟩) 1 1)) Bo n f' (fun j => (P j ∨ j = 0) ∨ j = 0) (fun j => if j = 0 then W3.heap.size else (if j = 0 then W.heap.size else bs j)) (fun j => if j = 0 then 0 else if j = 0 then y else x j) := by
  have hsz : (W3.setCell ⟨Bo, 0, none⟩ (.slice (some ⟨W.heap.size, 0, none⟩) 1 1)).heap.size = W3.heap.size := by simp [World.setCell]
  have h4 := (h.kept hB3).put (p := 0) hW3
  have h5 := h4.kept ((Below.refl _ _).alloc (Nat.le_refl _) (.cells (madeCells #[.int .u64 0] 1) 71))
  have hw5 : Wd ((W3.setCell ⟨Bo, 0, none⟩ (.slice (some ⟨W.heap.size, 0, none⟩) 1 1)).alloc (.cells (madeCells #[.int .u64 0] 1) 71)) W3.heap.size 0 := by
    have := setWord (W := W3.setCell ⟨Bo, 0, none⟩ (.slice (some ⟨W.heap.size, 0, none⟩) 1 1))
    rw [hsz] at this
    exact ⟨this, by decide⟩
  have h6 := h5.put (p := 0) hw5
  have c5 := h5.row.cell hi
  have c6 := h6.row.cell hi
  simp only [if_true] at c5 c6
  exact ⟨c5, h5.row.frozen 0, c6, h6.wd 0 hi (.inr rfl), _, h6⟩
set_option maxRecDepth 100000 in
set_option maxHeartbeats 2000000 in
theorem aheads_ok {n cN cB : Nat} {RN RB : Addr} {nx : Nat → List Nat} (hn : n ≤ 64) (hn0 : 0 < n) (hnx : ∀ p, ∀ q ∈ nx p, q < n) (hnl : ∀ p, (nx p).length ≤ 1000) (w : World) (hRN : Rws0 w RN n nx) (hRB : Rws0 w RB n (bkw nx n)) :
    Calls Tryz.prog 29 #[.agg #[.slice (some RN) n cN, .slice (some RB) n cB]] w fun e w' => ∃ Bo, e = .returned (.slice (some ⟨Bo, 0, none⟩) n n) ∧ ∃ f bs x, Ah w w' Bo n f (fun _ => True) bs x ∧ ∀ p, p < n → ∀ a, (x p).testBit a = true ↔ (Eng.Way nx (fun _ => False) 0 p ∧ Dmn nx n a p) := by
  have hmk := run_make_row' (P := Tryz.prog) 66 65 (.slice none 0 0) 24 (by kernel_rfl) (by kernel_rfl) rfl .i64 .i64 n (by omega) (by omega)
  have hb1 := World.alloc_heap_new w (.cells #[.slice (some RN) n cN, .slice (some RB) n cB] 41)
  have hB1 : Below w.heap.size w (w.alloc (.cells #[.slice (some RN) n cN, .slice (some RB) n cB] 41)) := (Below.refl _ w).alloc (Nat.le_refl _) _
  have hsp := fun cR => spread0_ok (cR := cR) hn hn0 hnx hnl (w.alloc (.cells #[.slice (some RN) n cN, .slice (some RB) n cB] 41)) (hRN.kept hB1)
  have hRB1 := hRB.kept hB1
  have hz1 : (w.alloc (.cells #[.slice (some RN) n cN, .slice (some RB) n cB] 41)).heap.size = w.heap.size + 1 := World.size_alloc _ _
  have Z : Hid ((w.alloc (.cells #[.slice (some RN) n cN, .slice (some RB) n cB] 41)).heap.size = w.heap.size + 1) := hz1
  have A1 : Hid (Below w.heap.size w (w.alloc (.cells #[.slice (some RN) n cN, .slice (some RB) n cB] 41))) := hB1
  have A2 : Hid (Rws0 (w.alloc (.cells #[.slice (some RN) n cN, .slice (some RB) n cB] 41)) RB n (bkw nx n)) := hRB1
  have A3 : Hid ((w.alloc (.cells #[.slice (some RN) n cN, .slice (some RB) n cB] 41)).heap[w.heap.size]? = some (.cells #[.slice (some RN) n cN, .slice (some RB) n cB] 41)) := hb1
  clear hz1 hB1 hRB1 hb1 hRN hRB
  go_enter Tryz.func29, Tryz.ntmps29
  go_wp2_with (first
    | (go_at_call 32; refine (hsp _).mono ?_; rintro e w2 ⟨Br, xr, rfl, hWr, hBr, hB2, hreach⟩)
    | fail)
  have hA0 : Ah w2 (w2.alloc (.cells (madeCells #[.slice none 0 0] n) 65)) w2.heap.size n (fun _ => .slice none 0 0) (· < 0) (fun _ => 0) (fun p => if p = 0 then 1 else 2 ^ n - 1) :=
    ⟨World.rowIs_made _ _ _ _, fun p _ h => absurd h (Nat.not_lt_zero _), fun p _ h => absurd h (Nat.not_lt_zero _), Nat.le_refl _, (Below.refl _ w2).alloc (Nat.le_refl _) _⟩
  have hd : (n + 63) / 64 = 1 := by omega
  have A4 : Hid (Below _ _ w2 ∧ Wd w2 Br xr ∧ ∀ q, xr.testBit q = true ↔ Eng.Way nx (fun _ => False) 0 q) := ⟨hB2, hWr, hreach⟩
  clear hmk hsp hB2 hWr hreach hBr
  go_loopw [22] (fun v wr => ∃ i : Nat, i ≤ n ∧ v = .int .i64 (i : Nat) ∧ ∃ f bs, Ah w2 wr w2.heap.size n f (· < i) bs (fun p => if p = 0 then 1 else 2 ^ n - 1)) (fun v _ => n - (intOf v).toNat)
  case atStart => exact ⟨0, Nat.zero_le _, rfl, _, _, hA0⟩
  case round =>
    clear hA0
    obtain ⟨i, hin, rfl, f, bs, hA⟩ := hrel
    by_cases hi : i < n
    · have hi0 : (0 : Int) ≤ (i : Int) := Int.natCast_nonneg _
      have hi1 : (i : Int) < (n : Int) := by omega
      have B : Hid (Ah w2 wr w2.heap.size n f (· < i) bs (fun p => if p = 0 then 1 else 2 ^ n - 1)) := hA
      clear hA
      by_cases i0 : i = 0
      · subst i0
        go_wp2_with (first
          | (go_at_call 48; refine (all_ok n hn hn0 _).mono ?_; rintro e w3 ⟨rfl, hW3, hB3⟩; have c3 := (B.out.kept hB3).row.cell hi; have f3 := (B.out.kept hB3).row.frozen 0)
          | (go_at_call 34; refine (none_ok n _ (by omega)).mono ?_; rintro e w5 ⟨rfl, rfl⟩; rw [hd]; obtain ⟨c5, f5, c6, hW6, f', h6⟩ := zero_step B.out hi hW3 hB3)
          | (go_at_call 35; refine (put_ok _ 1 0 0 _ hW6 (by omega)).mono ?_; rintro e w7 ⟨⟨v7, rfl⟩, hW7, hg7⟩)
          | fail)
        go_roundw
        case rel => exact ⟨1, hi, by simp, _, _, h6.first hn0 (.inr rfl) (by simp) hg7 hW7 (Nat.le_trans B.out.below.size hB3.size)⟩
        case measure =>
          show n - (intOf (Value.int .i64 ((0 + 1 : Nat) : Int))).toNat < n - (intOf (Value.int .i64 ((0 : Nat) : Int))).toNat
          simp only [intOf, Int.toNat_natCast]
          omega
      · have i0' : ¬ (i : Int) = 0 := by omega
        go_wp2_with (first
          | (go_at_call 48; refine (all_ok n hn hn0 _).mono ?_; rintro e w3 ⟨rfl, hW3, hB3⟩; have c3 := (B.out.kept hB3).row.cell hi; have f3 := (B.out.kept hB3).row.frozen i)
          | fail)
        go_roundw
        case rel => exact ⟨i + 1, hi, by simp, _, _, ((B.out.kept hB3).put hW3).as (fun p _ h => by omega) (fun p hp h => by
            by_cases e : p = i
            · subst e; simp [i0]
            · simp [e])⟩
        case measure =>
          show n - (intOf (Value.int .i64 ((i + 1 : Nat) : Int))).toNat < n - (intOf (Value.int .i64 (i : Nat))).toNat
          simp only [intOf, Int.toNat_natCast]
          omega
    · have en : i = n := by omega
      subst en
      have hA1 : Ah w2 wr w2.heap.size i f (fun _ => True) bs (fun p => if p = 0 then 1 else 2 ^ i - 1) := ⟨hA.row, fun p hp _ => hA.val p hp hp, fun p hp _ => hA.wd p hp hp, hA.base, hA.below⟩
      have hD := Dx.start hn0 hnx
      clear hA
      go_wp2
      go_loopw [7] (fun v wr2 => ∃ ch : Bool, v = .bool ch ∧ ∃ f bs x, Ah w2 wr2 w2.heap.size i f (fun _ => True) bs x ∧ Dx nx i x ∧ (ch = false → ∀ p, p < i → p ≠ 0 → Eng.Way nx (fun _ => False) 0 p → stepX nx i p x (x p))) (fun v wr2 => 2 * tot wr2 w2.heap.size i + bOf v)
      case atStart => exact ⟨true, rfl, _, _, _, hA1, hD, fun h => by cases h⟩
      case round =>
        clear hA1 hD
        obtain ⟨ch, rfl, f, bs, x, hA, hD, hch⟩ := hrel
        cases ch with
        | true =>
          clear hch
          have C : Hid (Ah w2 wr w2.heap.size i f (fun _ => True) bs x ∧ Dx nx i x) := ⟨hA, hD⟩
          have T0 := hA.tot fun _ _ => trivial
          generalize hT : tot wr w2.heap.size i = T at *
          have TT : Hid (tot wr w2.heap.size i = T) := hT
          clear hA hD
          go_wp2
          go_loopw [7, 8] (fun v7 v8 wr3 => ∃ (ch : Bool) (p : Nat), v7 = .bool ch ∧ v8 = .int .i64 (p : Nat) ∧ 1 ≤ p ∧ p ≤ i ∧ ∃ f bs x, Ah w2 wr3 w2.heap.size i f (fun _ => True) bs x ∧ Dx nx i x ∧ tot wr3 w2.heap.size i ≤ T ∧ (ch = true → tot wr3 w2.heap.size i < T) ∧ (ch = false → ∀ j, j < p → j ≠ 0 → Eng.Way nx (fun _ => False) 0 j → stepX nx i j x (x j))) (fun _ v8 _ => i - (intOf v8).toNat)
          case atStart => exact ⟨false, 1, rfl, rfl, Nat.le_refl _, hn0, f, bs, x, C.out.1, C.out.2, Nat.le_of_eq hT, fun h => (by cases h), fun _ j h1 h2 => (by omega)⟩
          case round =>
            clear C T0
            obtain ⟨ch, p, rfl, rfl, hp1, hpn, f, bs, x, hA, hD, hT, hTc, hst⟩ := hrel
            have hWr := A4.out.2.1.kept (below_grown hA.below) (by simp)
            have hc11 : wr.cell? ⟨w.heap.size, 1, none⟩ = some (.slice (some RB) i cB) := by
              have h1 : (w.alloc (.cells #[.slice (some RN) i cN, .slice (some RB) i cB] 41)).cell? ⟨w.heap.size, 1, none⟩ = some (.slice (some RB) i cB) := by
                have h := A3.out
                unfold World.cell?
                simp only [h]
                rfl
              have h2 := (A4.out.1.cell (p := ⟨w.heap.size, 1, none⟩) (by rw [Z.out]; exact Nat.lt_succ_self _)).trans h1
              exact (hA.below.cell (cellLt h2)).trans h2
            have hRB := (A2.out.kept A4.out.1).kept hA.below
            by_cases hlt : p < i
            · have hxr := A4.out.2.2 p
              have hp0 : (0 : Int) ≤ (p : Int) := Int.natCast_nonneg _
              have hp2 : (p : Int) < (i : Int) := by omega
              cases hb : xr.testBit p with
              | false =>
                have hnw : ¬ Eng.Way nx (fun _ => False) 0 p := fun h => by rw [hxr.2 h] at hb; cases hb
                go_wp2_with (first
                  | (go_at_call 30; refine (has_ok Br 1 p xr _ hWr (by omega)).mono ?_; rintro e w' ⟨rfl, rfl⟩; rw [hb])
                  | fail)
                go_roundw
                case rel => exact ⟨ch, p + 1, rfl, by simp, by omega, hlt, f, bs, x, hA, hD, hT, hTc, fun e j h1 h2 h3 => by
                  by_cases ej : j = p
                  · subst ej; exact absurd h3 hnw
                  · exact hst e j (by omega) h2 h3⟩
                case measure =>
                  show i - (intOf (Value.int .i64 ((p + 1 : Nat) : Int))).toNat < i - (intOf (Value.int .i64 (p : Nat))).toNat
                  simp only [intOf, Int.toNat_natCast]
                  omega
              | true =>
                have hw := hxr.1 hb
                obtain ⟨ob, cb, hr0, hrj⟩ := hRB p hlt
                have hbl : (bkw nx i p).length ≤ 64 := by
                  have := List.length_filter_le (fun q => decide (p ∈ nx q)) (List.range i)
                  rw [List.length_range] at this
                  unfold bkw; omega
                have C : Hid (Ah w2 wr w2.heap.size i f (fun _ => True) bs x ∧ Dx nx i x) := ⟨hA, hD⟩
                have D1 : Hid (tot wr w2.heap.size i ≤ T ∧ (ch = true → tot wr w2.heap.size i < T) ∧ (ch = false → ∀ j, j < p → j ≠ 0 → Eng.Way nx (fun _ => False) 0 j → stepX nx i j x (x j))) := ⟨hT, hTc, hst⟩
                clear hA hD hT hTc hst hRB
                go_wp2_with (first
                  | (go_at_call 30; refine (has_ok Br 1 p xr _ hWr (by omega)).mono ?_; rintro e w' ⟨rfl, rfl⟩; rw [hb])
                  | (go_at_call 48; refine (all_ok i hn hn0 _).mono ?_; rintro e w4 ⟨rfl, hW4, hB4⟩; have e11 := (hB4.cell (cellLt hc11)).trans hc11; have er0 := (hB4.cell (cellLt hr0)).trans hr0)
                  | fail)
                go_loopw [61] (fun v wr4 => ∃ (k y : Nat), v = .int .i64 (k : Nat) ∧ k ≤ (bkw nx i p).length ∧ Wd wr4 w'.heap.size y ∧ Below w'.heap.size w' wr4 ∧ (∀ a, y.testBit a = true ↔ (a < i ∧ ∀ q ∈ (bkw nx i p).take k, Eng.Way nx (fun _ => False) 0 q → (x q).testBit a = true))) (fun v _ => (bkw nx i p).length - (intOf v).toNat)
                case atStart => exact ⟨0, _, rfl, Nat.zero_le _, hW4, hB4, fun a => (all_bit i a).trans ⟨fun h => ⟨h, fun q hq => by simp at hq⟩, fun h => h.1⟩⟩
                case round =>
                  clear hW4 hB4 e11 er0
                  obtain ⟨k, y, rfl, hk, hWy, hB4, hy⟩ := hrel
                  by_cases hkl : k < (bkw nx i p).length
                  · obtain ⟨ad, rfl, had⟩ := hrj k _ (List.getElem?_eq_getElem hkl)
                    have hadr := (hB4.cell (cellLt had)).trans had
                    have hq := (bkw_mem.1 (List.getElem_mem hkl)).1
                    have hkq : (bkw nx i p)[k]? = some (bkw nx i p)[k] := List.getElem?_eq_getElem hkl
                    generalize (bkw nx i p)[k] = q at *
                    have hWr2 := hWr.kept (below_grown hB4) (by simp)
                    have hAw := C.out.1.kept hB4
                    have hq0 : (0 : Int) ≤ (q : Int) := Int.natCast_nonneg _
                    have hq1 : (q : Int) < (i : Int) := by omega
                    have hxq := A4.out.2.2 q
                    have cq := hAw.row.cell hq
                    rw [hAw.val q hq trivial] at cq
                    have hm := fun d => meet_ok w'.heap.size (bs q) y (x q) 1 d wr hWy (hAw.wd q hq trivial)
                    have E : Hid (∀ a, y.testBit a = true ↔ (a < i ∧ ∀ q ∈ (bkw nx i p).take k, Eng.Way nx (fun _ => False) 0 q → (x q).testBit a = true)) := hy
                    have htk : ∀ j, j ∈ (bkw nx i p).take (k + 1) ↔ j ∈ (bkw nx i p).take k ∨ j = q := fun j => by
                      rw [List.take_add_one, hkq]
                      simp [eq_comm]
                    unfold vSet at cq
                    clear hy hAw hr0 hrj had
                    cases hbq : xr.testBit q with
                    | false =>
                      have hnq : ¬ Eng.Way nx (fun _ => False) 0 q := fun h => by rw [hxq.2 h] at hbq; cases hbq
                      clear htk hxq
                      go_wp2_with (first
                        | (go_at_call 30; refine (has_ok Br 1 q xr _ hWr2 (by omega)).mono ?_; rintro e w5 ⟨rfl, rfl⟩; rw [hbq])
                        | fail)
                      go_roundw
                      case rel =>
                        refine ⟨k + 1, y, by simp, hkl, hWy, hB4, fun a => (E.out a).trans ⟨fun h => ⟨h.1, fun j hj hwj => ?_⟩, fun h => ⟨h.1, fun j hj hwj => h.2 j ?_ hwj⟩⟩⟩
                        · rw [List.take_add_one, hkq] at hj
                          rcases List.mem_append.1 hj with hj | hj
                          · exact h.2 j hj hwj
                          · simp at hj; subst hj; exact absurd hwj hnq
                        · rw [List.take_add_one]; exact List.mem_append_left _ hj
                      case measure =>
                        show (bkw nx i p).length - (intOf (Value.int .i64 ((k + 1 : Nat) : Int))).toNat < (bkw nx i p).length - (intOf (Value.int .i64 (k : Nat))).toNat
                        simp only [intOf, Int.toNat_natCast]
                        omega
                    | true =>
                      have hwq := hxq.1 hbq
                      clear htk hxq
                      go_wp2_with (first
                        | (go_at_call 30; refine (has_ok Br 1 q xr _ hWr2 (by omega)).mono ?_; rintro e w5 ⟨rfl, rfl⟩; rw [hbq])
                        | (go_at_call 49; refine (hm _).mono ?_; rintro e w6 ⟨⟨v6, rfl⟩, hW6, hg6⟩)
                        | fail)
                      go_roundw
                      case rel =>
                        refine ⟨k + 1, _, by simp, hkl, hW6, hB4.grown hg6 hB4.size (fun k hk => by cases hk; exact Nat.le_refl _), fun a => ?_⟩
                        rw [Nat.testBit_and, Bool.and_eq_true, E.out a, List.take_add_one, hkq]
                        constructor
                        · rintro ⟨⟨h1, h2⟩, h3⟩
                          refine ⟨h1, fun j hj hwj => ?_⟩
                          rcases List.mem_append.1 hj with hj | hj
                          · exact h2 j hj hwj
                          · simp at hj; subst hj; exact h3
                        · rintro ⟨h1, h2⟩
                          exact ⟨⟨h1, fun j hj hwj => h2 j (List.mem_append_left _ hj) hwj⟩, h2 q (List.mem_append_right _ (by simp)) hwq⟩
                      case measure =>
                        show (bkw nx i p).length - (intOf (Value.int .i64 ((k + 1 : Nat) : Int))).toNat < (bkw nx i p).length - (intOf (Value.int .i64 (k : Nat))).toNat
                        simp only [intOf, Int.toNat_natCast]
                        omega
                  · rw [List.take_of_length_le (by omega)] at hy
                    have hstep : stepX nx i p x (y ||| 2 ^ p) := fun a => by
                      rw [Nat.testBit_or, Nat.testBit_two_pow, Bool.or_eq_true, decide_eq_true_eq, hy a]
                      constructor
                      · rintro (⟨h1, h2⟩ | h)
                        · exact .inr ⟨h1, fun q hq hpq => h2 q (bkw_mem.2 ⟨hq.lt hnx hn0, hpq⟩) hq⟩
                        · exact .inl h.symm
                      · rintro (h | ⟨h1, h2⟩)
                        · exact .inr h.symm
                        · exact .inl ⟨h1, fun q hq hwq => h2 q hwq (bkw_mem.1 hq).2⟩
                    have E : Hid (stepX nx i p x (y ||| 2 ^ p)) := hstep
                    have hAw := C.out.1.kept hB4
                    have hS1 := hWy.neRow hAw.row
                    have hS2 : ∀ j, j < i → True → w'.heap.size ≠ bs j := fun j hj _ e => by
                      have := (C.out.1.wd j hj trivial).lt
                      omega
                    have hlo := C.out.1.below.size
                    have F : Hid (Ah w2 wr w2.heap.size i f (fun _ => True) bs x ∧ w'.heap.size ≠ w2.heap.size ∧ (∀ j, j < i → True → w'.heap.size ≠ bs j) ∧ w2.heap.size ≤ w'.heap.size) := ⟨hAw, hS1, hS2, hlo⟩
                    clear hy hAw hS1 hS2 hlo hstep hr0 hrj
                    by_cases hxy : y ||| 2 ^ p = x p
                    · go_wp2_with (first
                        | (go_at_call 35; refine (put_ok _ 1 p y _ hWy (by omega)).mono ?_; rintro e w9 ⟨⟨v9, rfl⟩, hW9, hg9⟩; have hA9 := F.out.1.far hg9 F.out.2.1 F.out.2.2.1 F.out.2.2.2; have c9 := hA9.row.cell hlt; rw [hA9.val p hlt trivial] at c9; unfold vSet at c9)
                        | (go_at_call 50; refine (same_ok _ _ _ _ _ _ _ hW9 (hA9.wd p hlt trivial)).mono ?_; rintro e w10 ⟨rfl, hB10⟩; rw [decide_eq_true hxy])
                        | fail)
                      go_roundw
                      case rel =>
                        have hA10 := hA9.kept hB10
                        have htot : tot w10 w2.heap.size i = tot w' w2.heap.size i := by rw [hA10.tot (fun _ _ => trivial), C.out.1.tot (fun _ _ => trivial)]
                        refine ⟨ch, p + 1, rfl, by simp, by omega, hlt, f, bs, x, hA10, C.out.2, by rw [htot]; exact D1.out.1, fun h => by rw [htot]; exact D1.out.2.1 h, fun e j h1 h2 h3 => ?_⟩
                        by_cases ej : j = p
                        · subst ej
                          have := E.out
                          rwa [hxy] at this
                        · exact D1.out.2.2 e j (by omega) h2 h3
                      case measure =>
                        show i - (intOf (Value.int .i64 ((p + 1 : Nat) : Int))).toNat < i - (intOf (Value.int .i64 (p : Nat))).toNat
                        simp only [intOf, Int.toNat_natCast]
                        omega
                    · go_wp2_with (first
                        | (go_at_call 35; refine (put_ok _ 1 p y _ hWy (by omega)).mono ?_; rintro e w9 ⟨⟨v9, rfl⟩, hW9, hg9⟩; have hA9 := F.out.1.far hg9 F.out.2.1 F.out.2.2.1 F.out.2.2.2; have c9 := hA9.row.cell hlt; rw [hA9.val p hlt trivial] at c9; unfold vSet at c9)
                        | (go_at_call 50; refine (same_ok _ _ _ _ _ _ _ hW9 (hA9.wd p hlt trivial)).mono ?_; rintro e w10 ⟨rfl, hB10⟩; rw [decide_eq_false hxy]; have c10 := (hA9.kept hB10).row.cell hlt; have f10 := (hA9.kept hB10).row.frozen p)
                        | fail)
                      go_roundw
                      case rel =>
                        have hA10 := hA9.kept hB10
                        have hA11 := hA10.put (p := p) (hW9.kept (below_grown hB10) (by simp))
                        have hA12 := hA11.as (P' := fun _ => True) (x' := fun j => if j = p then y ||| 2 ^ p else x j) (fun _ _ _ => .inl trivial) (fun _ _ _ => rfl)
                        obtain ⟨hD2, hsub⟩ := C.out.2.step hlt (by omega) hw E.out
                        have htot : tot (w10.setCell ⟨w2.heap.size, p, none⟩ (vSet w'.heap.size)) w2.heap.size i < tot w' w2.heap.size i := by
                          rw [hA12.tot (fun _ _ => trivial), C.out.1.tot (fun _ _ => trivial)]
                          have hle : ∀ j, j < i → card i (if j = p then y ||| 2 ^ p else x j) ≤ card i (x j) := fun j _ => by
                            by_cases ej : j = p
                            · subst ej
                              rw [if_pos rfl]
                              unfold card
                              simp only [← List.countP_eq_length_filter]
                              exact List.countP_mono_left fun q _ => hsub q
                            · rw [if_neg ej]; exact Nat.le_refl _
                          refine sum_lt (p := p) hlt hle ?_
                          rw [if_pos rfl]
                          have hex : ∃ a, (x p).testBit a = true ∧ (y ||| 2 ^ p).testBit a = false := Classical.byContradiction fun hno => hxy (Nat.eq_of_testBit_eq fun a => by
                            cases h1 : (x p).testBit a with
                            | false =>
                              cases h2 : (y ||| 2 ^ p).testBit a with
                              | false => rfl
                              | true => have := hsub a h2; rw [h1] at this; cases this
                            | true =>
                              cases h2 : (y ||| 2 ^ p).testBit a with
                              | false => exact absurd ⟨a, h1, h2⟩ hno
                              | true => rfl)
                          obtain ⟨a, h1, h2⟩ := hex
                          exact card_lt hsub (C.out.2.low p a hlt h1) h1 h2
                        exact ⟨true, p + 1, rfl, by simp, by omega, hlt, _, _, _, hA12, hD2, Nat.le_of_lt (Nat.lt_of_lt_of_le htot D1.out.1), fun _ => Nat.lt_of_lt_of_le htot D1.out.1, fun h => by cases h⟩
                      case measure =>
                        show i - (intOf (Value.int .i64 ((p + 1 : Nat) : Int))).toNat < i - (intOf (Value.int .i64 (p : Nat))).toNat
                        simp only [intOf, Int.toNat_natCast]
                        omega
            · have ep : p = i := by omega
              subst ep
              clear hRB hc11 hWr
              go_wp2
              go_roundw
              case rel => exact ⟨ch, rfl, f, bs, x, hA, hD, fun e j h1 h2 h3 => hst e j h1 h2 h3⟩
              case measure =>
                have := TT.out
                have hb : bOf (.bool true) = 1 := rfl
                cases ch with
                | true =>
                  have := hTc rfl
                  have hb : bOf (.bool true) = 1 := rfl
                  omega
                | false =>
                  have hb0 : bOf (.bool false) = 0 := rfl
                  omega
        | false =>
          have hfix := hch rfl
          clear hch
          have F : Hid (Dx nx i x ∧ ∀ p, p < i → p ≠ 0 → Eng.Way nx (fun _ => False) 0 p → stepX nx i p x (x p)) := ⟨hD, hfix⟩
          clear hD hfix
          go_wp2
          go_loopw [90] (fun v wr5 => ∃ k : Nat, k ≤ i ∧ v = .int .i64 (k : Nat) ∧ ∃ f bs x', Ah w2 wr5 w2.heap.size i f (fun _ => True) bs x' ∧ (∀ p, p < i → p < k → Eng.Way nx (fun _ => False) 0 p → x' p = x p) ∧ (∀ p, p < i → p < k → ¬ Eng.Way nx (fun _ => False) 0 p → x' p = 0) ∧ (∀ p, p < i → k ≤ p → x' p = x p)) (fun v _ => i - (intOf v).toNat)
          case atStart => exact ⟨0, Nat.zero_le _, rfl, f, bs, x, hA, fun p _ h => by omega, fun p _ h => by omega, fun _ _ _ => rfl⟩
          case round =>
            clear hA
            obtain ⟨k, hk, rfl, f5, bs5, x5, hA, g1, g2, g3⟩ := hrel
            have hWr := A4.out.2.1.kept (below_grown hA.below) (by simp)
            have G : Hid (Ah w2 wr w2.heap.size i f5 (fun _ => True) bs5 x5 ∧ (∀ p, p < i → p < k → Eng.Way nx (fun _ => False) 0 p → x5 p = x p) ∧ (∀ p, p < i → p < k → ¬ Eng.Way nx (fun _ => False) 0 p → x5 p = 0) ∧ (∀ p, p < i → k ≤ p → x5 p = x p)) := ⟨hA, g1, g2, g3⟩
            clear hA g1 g2 g3
            by_cases hlt : k < i
            · have hxr := A4.out.2.2 k
              have hp0 : (0 : Int) ≤ (k : Int) := Int.natCast_nonneg _
              have hp2 : (k : Int) < (i : Int) := by omega
              cases hb : xr.testBit k with
              | true =>
                have hw := hxr.1 hb
                clear hxr
                go_wp2_with (first
                  | (go_at_call 30; refine (has_ok Br 1 k xr _ hWr (by omega)).mono ?_; rintro e w' ⟨rfl, rfl⟩; rw [hb])
                  | fail)
                go_roundw
                case rel => exact ⟨k + 1, hlt, by simp, f5, bs5, x5, G.out.1, fun p h1 h2 h3 => by
                    by_cases e : p = k
                    · subst e; exact G.out.2.2.2 p h1 (Nat.le_refl _)
                    · exact G.out.2.1 p h1 (by omega) h3, fun p h1 h2 h3 => by
                    by_cases e : p = k
                    · subst e; exact absurd hw h3
                    · exact G.out.2.2.1 p h1 (by omega) h3, fun p h1 h2 => G.out.2.2.2 p h1 (by omega)⟩
                case measure =>
                  show i - (intOf (Value.int .i64 ((k + 1 : Nat) : Int))).toNat < i - (intOf (Value.int .i64 (k : Nat))).toNat
                  simp only [intOf, Int.toNat_natCast]
                  omega
              | false =>
                have hnw : ¬ Eng.Way nx (fun _ => False) 0 k := fun h => by rw [hxr.2 h] at hb; cases hb
                clear hxr
                go_wp2_with (first
                  | (go_at_call 30; refine (has_ok Br 1 k xr _ hWr (by omega)).mono ?_; rintro e w' ⟨rfl, rfl⟩; rw [hb])
                  | (go_at_call 34; refine (none_ok i _ (by omega)).mono ?_; rintro e w5 ⟨rfl, rfl⟩; rw [hd]; have h5 := G.out.1.kept ((Below.refl _ _).alloc (Nat.le_refl _) (.cells (madeCells #[.int .u64 0] 1) 71)); have c5 := h5.row.cell hlt; have f5 := h5.row.frozen k)
                  | fail)
                go_roundw
                case rel => exact ⟨k + 1, hlt, by simp, _, _, _, (h5.put (p := k) (y := 0) ⟨setWord, by decide⟩).as (P' := fun _ => True) (fun _ _ _ => .inl trivial) (fun _ _ _ => rfl), fun p h1 h2 h3 => by
                    by_cases e : p = k
                    · subst e; exact absurd h3 hnw
                    · rw [if_neg e]; exact G.out.2.1 p h1 (by omega) h3, fun p h1 h2 h3 => by
                    by_cases e : p = k
                    · rw [if_pos e]
                    · rw [if_neg e]; exact G.out.2.2.1 p h1 (by omega) h3, fun p h1 h2 => by
                    rw [if_neg (by omega)]; exact G.out.2.2.2 p h1 (by omega)⟩
                case measure =>
                  show i - (intOf (Value.int .i64 ((k + 1 : Nat) : Int))).toNat < i - (intOf (Value.int .i64 (k : Nat))).toNat
                  simp only [intOf, Int.toNat_natCast]
                  omega
            · go_wp2
              go_ret
              have hz1 := A1.out.size
              have hz2 := A4.out.1.size
              refine ⟨w2.heap.size, rfl, f5, bs5, x5, ⟨G.out.1.row, G.out.1.val, G.out.1.wd, by omega, (A1.out.trans (A4.out.1.mono hz1)).trans (G.out.1.below.mono (by omega))⟩, fun p hp a => ?_⟩
              by_cases hw : Eng.Way nx (fun _ => False) 0 p
              · rw [G.out.2.1 p hp (by omega) hw]
                have hfx := dmn_fix (nx := nx) (n := i) (out := fun p a => (x p).testBit a = true) F.out.1.zero F.out.1.dom (fun p a p0 hw h => (F.out.2 p (hw.lt hnx hn0) p0 hw a).1 h) (p := p) (a := a) hw
                exact hfx.trans ⟨fun h => ⟨hw, h⟩, fun h => h.2⟩
              · rw [G.out.2.2.1 p hp (by omega) hw]
                simp [hw]
def BoolR (e : Ending) (P : Prop) : Prop := ∃ r : Bool, e = .returned (.bool r) ∧ (r = true ↔ P)
/-- what is known of the rows of words -/
structure NxOk (w : World) (oa : Option Addr) (n c : Nat) (nx : Nat → List Nat) : Prop where
  le : n ≤ 64
  lt : ∀ p, ∀ q ∈ nx p, q < n
  len : ∀ p, (nx p).length ≤ 1000
  nd : ∀ p, (nx p).Nodup
  call : ∀ p, p < n → ∀ W, Below w.heap.size w W → Calls Tryz.prog 13 #[.slice oa n c, .int .i64 (p : Nat)] W fun e w' => ∃ v', e = .returned v' ∧ OwnW w' W.heap.size v' (nx p) ∧ Below W.heap.size W w'
theorem weave_nx {w : World} {oa : Option Addr} {n c : Nat} {nx : Nat → List Nat} (h : NxOk w oa n c nx) : Calls Tryz.prog 10 #[.slice oa n c] w fun e w' => ∃ BN BB, e = .returned (.agg #[.slice (some ⟨BN, 0, none⟩) n n, .slice (some ⟨BB, 0, none⟩) n n]) ∧ Rws0 w' ⟨BN, 0, none⟩ n nx ∧ Rws0 w' ⟨BB, 0, none⟩ n (bkw nx n) ∧ Below w.heap.size w w' :=
  weave_ok h.le h.lt h.len h.nd w h.call
set_option maxRecDepth 100000 in
set_option maxHeartbeats 1000000 in
theorem Ahead_ok {w : World} {oa : Option Addr} {n c : Nat} {nx : Nat → List Nat} (h : NxOk w oa n c nx) (a b : Int) (ha : -9223372036854775808 ≤ a ∧ a ≤ 9223372036854775807) (hb : -9223372036854775808 ≤ b ∧ b ≤ 9223372036854775807) :
    Calls Tryz.prog 14 #[.slice oa n c, .int .i64 a, .int .i64 b] w fun e w' => BoolR e (0 ≤ a ∧ a < n ∧ 0 ≤ b ∧ b < n ∧ Eng.Way nx (fun _ => False) 0 b.toNat ∧ Dmn nx n a.toNat b.toNat) ∧ Below w.heap.size w w' := by
  have hw := weave_nx h
  have hn := h.le
  have A : Hid (NxOk w oa n c nx) := h
  clear h
  by_cases a0 : a < 0
  · go_enter Tryz.func14, Tryz.ntmps14
    go_wp2
    go_ret
    exact ⟨⟨false, rfl, ⟨fun h => (by cases h), fun h => (by omega)⟩⟩, Below.refl _ _⟩
  by_cases b0 : b < 0
  · go_enter Tryz.func14, Tryz.ntmps14
    go_wp2
    go_ret
    exact ⟨⟨false, rfl, ⟨fun h => (by cases h), fun h => (by omega)⟩⟩, Below.refl _ _⟩
  by_cases a1 : (n : Int) ≤ a
  · go_enter Tryz.func14, Tryz.ntmps14
    go_wp2
    go_ret
    exact ⟨⟨false, rfl, ⟨fun h => (by cases h), fun h => (by omega)⟩⟩, Below.refl _ _⟩
  by_cases b1 : (n : Int) ≤ b
  · go_enter Tryz.func14, Tryz.ntmps14
    go_wp2
    go_ret
    exact ⟨⟨false, rfl, ⟨fun h => (by cases h), fun h => (by omega)⟩⟩, Below.refl _ _⟩
  obtain ⟨a, rfl⟩ := Int.eq_ofNat_of_zero_le (Int.not_lt.1 a0)
  obtain ⟨b, rfl⟩ := Int.eq_ofNat_of_zero_le (Int.not_lt.1 b0)
  have a2 : a < n := by omega
  have b2 : b < n := by omega
  have b3 : (0 : Int) ≤ (b : Int) := Int.natCast_nonneg _
  have b4 : (b : Int) < (n : Int) := by omega
  go_enter Tryz.func14, Tryz.ntmps14
  go_wp2_with (first
    | (go_at_call 10; refine hw.mono ?_; rintro e w2 ⟨BN, BB, rfl, hN, hB, hbl⟩)
    | (go_at_call 29; refine (aheads_ok hn (by omega) A.out.lt A.out.len w2 hN hB).mono ?_; rintro e w3 ⟨Bo, rfl, f, bs, x, hA, hx⟩; have c3 := hA.row.cell b2; rw [hA.val b b2 trivial] at c3; unfold vSet at c3)
    | (go_at_call 30; refine (has_ok _ _ a _ _ (hA.wd b b2 trivial) (by omega)).mono ?_; rintro e w4 ⟨rfl, rfl⟩)
    | fail)
  go_ret
  refine ⟨⟨_, rfl, (hx b b2 a).trans ?_⟩, hbl.trans (hA.below.mono hbl.size)⟩
  exact ⟨fun h => ⟨by omega, by omega, by omega, by omega, h.1, h.2⟩, fun h => ⟨h.2.2.2.2.1, h.2.2.2.2.2⟩⟩
/-- a new row of truths -/
def BoolsR (w w' : World) (Bo n : Nat) (P : Nat → Prop) : Prop := ∃ g : Nat → Bool, w'.rowIs Bo 4 n (fun p => .bool (g p)) ∧ w.heap.size ≤ Bo ∧ Below w.heap.size w w' ∧ ∀ p, p < n → (g p = true ↔ P p)
theorem field0 (a b : Option Addr) (m n c d : Nat) (w : World) : (Instr.field 41 (.agg #[.slice a m c, .slice b n d]) 0).run Tryz.prog w = .ok (.slice a m c) w := by kernel_rfl
/-- all blocks but two are as they were -/
structure Kp (W W' : World) (B1 B2 : Nat) : Prop where
  os : W'.os = W.os
  tape : W'.tape = W.tape
  output : W'.output = W.output
  size : W.heap.size ≤ W'.heap.size
  block : ∀ k, k < W.heap.size → k ≠ B1 → k ≠ B2 → W'.heap[k]? = W.heap[k]?
theorem Kp.refl (W : World) (B1 B2 : Nat) : Kp W W B1 B2 := ⟨rfl, rfl, rfl, Nat.le_refl _, fun _ _ _ _ => rfl⟩
theorem Kp.trans {a b c : World} {B1 B2 : Nat} (h : Kp a b B1 B2) (k : Kp b c B1 B2) : Kp a c B1 B2 :=
  ⟨k.os.trans h.os, k.tape.trans h.tape, k.output.trans h.output, Nat.le_trans h.size k.size, fun i hi n1 n2 => (k.block i (Nat.lt_of_lt_of_le hi h.size) n1 n2).trans (h.block i hi n1 n2)⟩
theorem Kp.one {a b : World} {B1 B2 : Nat} (h : a.grownBy b (some B1)) : Kp a b B1 B2 := ⟨h.os, h.tape, h.output, h.size, fun i hi n1 _ => h.block i hi (fun e => n1 (Option.some.inj e))⟩
theorem Kp.two {a b : World} {B1 B2 : Nat} (h : a.grownBy b (some B2)) : Kp a b B1 B2 := ⟨h.os, h.tape, h.output, h.size, fun i hi _ n2 => h.block i hi (fun e => n2 (Option.some.inj e))⟩
theorem Kp.cell {a b : World} {B1 B2 : Nat} (h : Kp a b B1 B2) {p : Addr} {v : Value} (hc : a.cell? p = some v) (n1 : p.block ≠ B1) (n2 : p.block ≠ B2) : b.cell? p = some v := by
  have := h.block p.block (cellLt hc) n1 n2
  unfold World.cell? at hc ⊢
  rw [this]; exact hc
theorem Kp.boxed {a b : World} {B1 B2 k : Nat} {t : TypeId} {v : Value} (h : Kp a b B1 B2) (hb : Boxed a k t v) (n1 : k ≠ B1) (n2 : k ≠ B2) : Boxed b k t v := (h.block k hb.lt n1 n2).trans hb
/-- what the walk in depth that looks for a way round leans on -/
structure Cw (W : World) (Bs bS bW bF bC : Nat) (R RB : Addr) (n : Nat) (nx : Nat → List Nat) : Prop where
  s : Boxed W bS 43 (.slice (some ⟨Bs, 0, none⟩) n n)
  web : W.heap[bW]? = some (.cells #[.slice (some R) n n, .slice (some RB) n n] 41 (0, 0))
  come : Boxed W bC 44 (.func (.func 11) #[] #[ptr bS, ptr bW, ptr bF, ptr bC])
  ne : (bS ≠ Bs ∧ bS ≠ bF) ∧ (bW ≠ Bs ∧ bW ≠ bF) ∧ (bC ≠ Bs ∧ bC ≠ bF) ∧ Bs ≠ bF
  rows : (R.block ≠ Bs ∧ R.block ≠ bF) ∧ ∀ p, p < n → ∃ oa c, W.cell? (R.add p) = some (.slice oa (nx p).length c) ∧ ∀ j q, (nx p)[j]? = some q → ∃ a : Addr, oa = some a ∧ (a.block ≠ Bs ∧ a.block ≠ bF) ∧ W.cell? (a.add j) = some (.int .i64 (q : Nat))
theorem Cw.kept {W W' : World} {Bs bS bW bF bC n : Nat} {R RB : Addr} {nx : Nat → List Nat} (h : Cw W Bs bS bW bF bC R RB n nx) (k : Kp W W' Bs bF) : Cw W' Bs bS bW bF bC R RB n nx := by
  refine ⟨k.boxed h.s h.ne.1.1 h.ne.1.2, (k.block bW (Array.getElem?_eq_some_iff.1 h.web).1 h.ne.2.1.1 h.ne.2.1.2).trans h.web, k.boxed h.come h.ne.2.2.1.1 h.ne.2.2.1.2, h.ne, h.rows.1, fun p hp => ?_⟩
  obtain ⟨oa, c, h1, h2⟩ := h.rows.2 p hp
  refine ⟨oa, c, k.cell h1 (by rw [addBlock]; exact h.rows.1.1) (by rw [addBlock]; exact h.rows.1.2), fun j q hj => ?_⟩
  obtain ⟨a, e, hb, hc⟩ := h2 j q hj
  exact ⟨a, e, hb, k.cell hc (by rw [addBlock]; exact hb.1) (by rw [addBlock]; exact hb.2)⟩
/-- the states: 0 fresh, 1 open, 2 done; and whether it was found -/
structure Cs (W : World) (Bs bF n : Nat) (st : Nat → Nat) (f : Bool) : Prop where
  row : W.rowIs Bs 3 n (fun q => .int .i64 (st q : Nat))
  fnd : Boxed W bF 4 (.bool f)
  le : ∀ q, st q ≤ 2
def fresh (n : Nat) (st : Nat → Nat) : Nat := ((List.range n).filter fun q => st q == 0).length
theorem fresh_le {n : Nat} {st st' : Nat → Nat} (h : ∀ q, st' q = 0 → st q = 0) : fresh n st' ≤ fresh n st := by
  unfold fresh
  simp only [← List.countP_eq_length_filter]
  exact List.countP_mono_left fun q _ hq => by simp only [beq_iff_eq] at hq ⊢; exact h q hq
theorem fresh_lt {n p : Nat} {st : Nat → Nat} (hp : p < n) (hs : st p = 0) : fresh n (fun q => if q = p then 1 else st q) < fresh n st := by
  unfold fresh
  obtain ⟨l1, l2, e⟩ := List.append_of_mem (List.mem_range.2 hp)
  have hm : ∀ l : List Nat, (l.filter fun q => (if q = p then 1 else st q) == 0).length ≤ (l.filter fun q => st q == 0).length := fun l => by
    simp only [← List.countP_eq_length_filter]
    exact List.countP_mono_left fun q _ hq => by
      simp only [beq_iff_eq] at hq ⊢
      by_cases e : q = p
      · rw [if_pos e] at hq; cases hq
      · rwa [if_neg e] at hq
  rw [e]
  have h1 := hm l1
  have h2 := hm l2
  simp only [List.filter_append, List.length_append, List.filter_cons, hs, if_true, beq_self_eq_true, List.length_cons] at h1 h2 ⊢
  simp only [Nat.reduceBEq, Bool.false_eq_true, if_false]
  omega
theorem Cs.set {W : World} {Bs bF n v : Nat} {st : Nat → Nat} {f : Bool} (h : Cs W Bs bF n st f) (hne : Bs ≠ bF) (p : Nat) (hv : v ≤ 2) : Cs (W.setCell ⟨Bs, p, none⟩ (.int .i64 (v : Nat))) Bs bF n (fun q => if q = p then v else st q) f := by
  refine ⟨(h.row.set p _).congr fun j _ => by by_cases e : j = p <;> simp [e], h.fnd.kept (grown_cell W Bs p _) (fun e => hne (Option.some.inj e).symm), fun q => ?_⟩
  by_cases e : q = p
  · rw [if_pos e]; exact hv
  · rw [if_neg e]; exact h.le q
theorem Cs.found {W : World} {Bs bF n : Nat} {st : Nat → Nat} {f : Bool} (h : Cs W Bs bF n st f) (hne : Bs ≠ bF) : Cs (W.setCell ⟨bF, 0, none⟩ (.bool true)) Bs bF n st true :=
  ⟨rowIs_kept h.row (grown_cell W bF 0 _) (fun e => hne (Option.some.inj e)), h.fnd.set _, h.le⟩
set_option maxRecDepth 100000 in
set_option maxHeartbeats 1000000 in
theorem cyc1_ok {Bs bS bW bF bC n : Nat} {R RB : Addr} {nx : Nat → List Nat} (hn : n ≤ 64) (hnx : ∀ p, ∀ q ∈ nx p, q < n) (hnl : ∀ p, (nx p).length ≤ 1000) :
    ∀ (k : Nat) (w : World) (st : Nat → Nat) (f : Bool) (p : Nat), fresh n st < k → p < n → Cs w Bs bF n st f → Cw w Bs bS bW bF bC R RB n nx → CyQ nx p (fun q => st q = 1) (fun q => st q = 2) (f = true) →
    Calls Tryz.prog 11 #[.int .i64 (p : Nat), ptr bS, ptr bW, ptr bF, ptr bC] w fun e w' => (∃ v, e = .returned v) ∧ ∃ st' f', Cs w' Bs bF n st' f' ∧ Kp w w' Bs bF ∧ CyP nx p (fun q => st q = 1) (fun q => st q = 2) (f = true) (fun q => st' q = 1) (fun q => st' q = 2) (f' = true) := by
  intro k
  induction k with
  | zero => intro w st f p h; omega
  | succ k ih =>
    intro w st f p hk hp hS hC hQ
    have hne := hC.ne.2.2.2
    have hst := hS.le
    have hs0 : st p = 0 := by
      have h1 := hS.le p
      have h2 := hQ.fr.1
      have h3 := hQ.fr.2
      omega
    have c1 := hC.s.cell
    have c2 := hS.row.cell hp
    have f2 := hS.row.frozen p
    have hS1 : Cs (w.setCell ⟨Bs, p, none⟩ (.int .i64 1)) Bs bF n (fun q => if q = p then 1 else st q) f := hS.set (v := 1) hne p (by omega)
    have hK1 : Kp w (w.setCell ⟨Bs, p, none⟩ (.int .i64 1)) Bs bF := .one (grown_cell w Bs p _)
    have hC1 := hC.kept hK1
    have d1 : (w.setCell ⟨Bs, p, none⟩ (.int .i64 1)).cell? ⟨bW, 0, none⟩ = some (.slice (some R) n n) := by
      have h := hC1.web
      unfold World.cell?
      simp only [h]
      rfl
    obtain ⟨oa, cr, hr00, hrj⟩ := hC.rows.2 p hp
    have hr0 := hK1.cell hr00 (by rw [addBlock]; exact hC.rows.1.1) (by rw [addBlock]; exact hC.rows.1.2)
    have hk1 : fresh n (fun q => if q = p then 1 else st q) < k := Nat.lt_of_lt_of_le (fresh_lt hp hs0) (by omega)
    clear hr00
    have hl := hnl p
    have hp0 : (0 : Int) ≤ (p : Int) := Int.natCast_nonneg _
    have hp1 : (p : Int) < (n : Int) := by omega
    have A : Hid (CyQ nx p (fun q => st q = 1) (fun q => st q = 2) (f = true) ∧ Cw w Bs bS bW bF bC R RB n nx ∧ st p = 0) := ⟨hQ, hC, hs0⟩
    have hL0 : CyL nx p (fun q => st q = 1) (fun q => st q = 2) (f = true) (fun q => (if q = p then 1 else st q) = 1) (fun q => (if q = p then 1 else st q) = 2) (f = true) 0 := by
      have h := CyL.start hQ
      have e1 : (fun x => st x = 1 ∨ x = p) = fun q => (if q = p then 1 else st q) = 1 := by
        funext q
        by_cases e : q = p <;> simp [e]
      have e2 : (fun q => st q = 2) = fun q => (if q = p then 1 else st q) = 2 := by
        funext q
        by_cases e : q = p
        · subst e; simp [hs0]
        · simp [e]
      rw [e1] at h
      rwa [← e2]
    clear hQ hC hs0 hS
    unfold ptr
    go_enter Tryz.func11, Tryz.ntmps11
    go_wp2_with fail
    go_loopw [17] (fun v wr => ∃ (i : Nat) (st2 : Nat → Nat) (f2 : Bool), v = .int .i64 (i : Nat) ∧ i ≤ (nx p).length ∧ Cs wr Bs bF n st2 f2 ∧ Kp w wr Bs bF ∧ CyL nx p (fun q => st q = 1) (fun q => st q = 2) (f = true) (fun q => st2 q = 1) (fun q => st2 q = 2) (f2 = true) i) (fun v _ => (nx p).length - (intOf v).toNat)
    case atStart => exact ⟨0, _, f, rfl, Nat.zero_le _, hS1, hK1, hL0⟩
    case round =>
      clear hS1 d1 c2 f2 hL0 c1
      obtain ⟨i, st2, f2, rfl, hi, hS2, hK2, hL⟩ := hrel
      have hC2 := A.out.2.1.kept hK2
      have c1 := hC2.s.cell
      have c3 := hC2.come.cell
      unfold ptr at c3
      by_cases hlt : i < (nx p).length
      · have hiq : (nx p)[i]? = some (nx p)[i] := List.getElem?_eq_getElem hlt
        have hq : (nx p)[i] < n := hnx p _ (List.getElem_mem hlt)
        generalize (nx p)[i] = q at *
        obtain ⟨a, rfl, hab, hac⟩ := hrj i q hiq
        have hac2 := hK2.cell hac (by rw [addBlock]; exact hab.1) (by rw [addBlock]; exact hab.2)
        have cq := hS2.row.cell hq
        have hq0 : (0 : Int) ≤ (q : Int) := Int.natCast_nonneg _
        have hq1 : (q : Int) < (n : Int) := by omega
        have hfr : fresh n st2 < k := Nat.lt_of_le_of_lt (fresh_le fun x hx => by
          have h1 := (hL.opn x).2
          have h2 := hL.sub x
          by_cases e : x = p
          · have := h1 (.inr e); omega
          · rw [if_neg e]
            have h3 := h1
            by_cases e1 : st x = 1
            · have := h1 (.inl e1); omega
            · by_cases e2 : st x = 2
              · have := h2 e2; omega
              · have hle : st x ≤ 2 := hst x
                omega) hk1
        have B : Hid (Cs wr Bs bF n st2 f2 ∧ Cw wr Bs bS bW bF bC R RB n nx ∧ CyL nx p (fun q => st q = 1) (fun q => st q = 2) (f = true) (fun q => st2 q = 1) (fun q => st2 q = 2) (f2 = true) i ∧ Kp w wr Bs bF) := ⟨hS2, hC2, hL, hK2⟩
        have hle := hS2.le q
        clear hrj hac
        rcases (by omega : st2 q = 0 ∨ st2 q = 1 ∨ st2 q = 2) with e | e | e
        · have hc := ih wr st2 f2 q hfr hq hS2 hC2 (hL.pre A.out.1 hiq (by simp [e]) (by simp [e]))
          unfold ptr at hc
          rw [e] at cq
          clear hS2 hC2 hL hK2
          go_wp2_with (first
            | (go_at_call 11; refine hc.mono ?_; rintro e w3 ⟨⟨v3, rfl⟩, st3, f3, g1, g2, g3⟩)
            | fail)
          go_roundw
          case rel => exact ⟨i + 1, st3, f3, by simp, hlt, g1, B.out.2.2.2.trans g2, B.out.2.2.1.call hiq g3⟩
          case measure =>
            show (nx p).length - (intOf (Value.int .i64 ((i + 1 : Nat) : Int))).toNat < (nx p).length - (intOf (Value.int .i64 (i : Nat))).toNat
            simp only [intOf, Int.toNat_natCast]
            omega
        · have cf := hS2.fnd.cell
          have ff := hS2.fnd.frozen
          have hS3 := hS2.found hne
          have cq3 := (hS3.row.cell hq)
          have c13 := ((Kp.two (B1 := Bs) (grown_cell wr bF 0 (.bool true))).boxed hC2.s hC2.ne.1.1 hC2.ne.1.2).cell
          rw [e] at cq cq3
          clear hS2 hC2 hL hK2
          go_wp2
          go_roundw
          case rel =>
            have hh := B.out.2.2.1.hit A.out.1 hiq e
            have et : True = (true = true) := by simp
            rw [et] at hh
            exact ⟨i + 1, st2, true, by simp, hlt, hS3, B.out.2.2.2.trans (.two (grown_cell wr bF 0 _)), hh⟩
          case measure =>
            show (nx p).length - (intOf (Value.int .i64 ((i + 1 : Nat) : Int))).toNat < (nx p).length - (intOf (Value.int .i64 (i : Nat))).toNat
            simp only [intOf, Int.toNat_natCast]
            omega
        · rw [e] at cq
          clear hS2 hC2 hL hK2
          go_wp2
          go_roundw
          case rel => exact ⟨i + 1, st2, f2, by simp, hlt, B.out.1, B.out.2.2.2, B.out.2.2.1.old hiq e⟩
          case measure =>
            show (nx p).length - (intOf (Value.int .i64 ((i + 1 : Nat) : Int))).toNat < (nx p).length - (intOf (Value.int .i64 (i : Nat))).toNat
            simp only [intOf, Int.toNat_natCast]
            omega
      · have cp := hS2.row.cell hp
        have fp := hS2.row.frozen p
        have hS3 : Cs (wr.setCell ⟨Bs, p, none⟩ (.int .i64 2)) Bs bF n (fun q => if q = p then 2 else st2 q) f2 := hS2.set (v := 2) hne p (by omega)
        have hF := hL.fin A.out.1 (by omega)
        have e1 : (fun x => st2 x = 1 ∧ x ≠ p) = fun q => (if q = p then 2 else st2 q) = 1 := by
          funext q
          by_cases e : q = p <;> simp [e]
        have e2 : (fun x => st2 x = 2 ∨ x = p) = fun q => (if q = p then 2 else st2 q) = 2 := by
          funext q
          by_cases e : q = p <;> simp [e]
        rw [e1, e2] at hF
        have hK3 : Kp w (wr.setCell ⟨Bs, p, none⟩ (.int .i64 2)) Bs bF := hK2.trans (.one (grown_cell wr Bs p _))
        clear hS2 hC2 hL hK2 e1 e2 hrj hr0
        go_wp2
        go_end0
        exact ⟨⟨_, rfl⟩, _, f2, hS3, hK3, hF⟩
def cyW (w : World) (n : Nat) (R RB : Addr) : World :=
  ((((w.alloc (.cells #[.slice (some R) n n, .slice (some RB) n n] 41)).alloc (.cells (madeCells #[.int .i64 0] n) 3)).alloc (.cells #[.slice (some ⟨w.heap.size + 1, 0, none⟩) n n] 43)).alloc (.cells #[.bool false] 4)).alloc
    (.cells #[.func (.func 11) #[] #[.pointer (some ⟨w.heap.size + 1 + 1, 0, none⟩), .pointer (some ⟨w.heap.size, 0, none⟩), .pointer (some ⟨w.heap.size + 1 + 1 + 1, 0, none⟩), .pointer (some ⟨w.heap.size + 1 + 1 + 1 + 1, 0, none⟩)]] 44)
theorem cyc_start {n : Nat} {nx : Nat → List Nat} {R RB : Addr} (hn : n ≤ 64) (hn0 : 0 < n) (hnx : ∀ p, ∀ q ∈ nx p, q < n) (hnl : ∀ p, (nx p).length ≤ 1000) (w : World) (hR : Rws0 w R n nx) :
    Calls Tryz.prog 11 #[.int .i64 0, .pointer (some ⟨w.heap.size + 1 + 1, 0, none⟩), .pointer (some ⟨w.heap.size, 0, none⟩), .pointer (some ⟨w.heap.size + 1 + 1 + 1, 0, none⟩), .pointer (some ⟨w.heap.size + 1 + 1 + 1 + 1, 0, none⟩)] (cyW w n R RB) fun e w' => (∃ v, e = .returned v) ∧ ∃ f : Bool, Boxed w' (w.heap.size + 1 + 1 + 1) 4 (.bool f) ∧ Below w.heap.size w w' ∧ (f = true ↔ Cyc nx) := by
  let o1 : Obj := .cells #[.slice (some R) n n, .slice (some RB) n n] 41
  let o2 : Obj := .cells (madeCells #[.int .i64 0] n) 3
  let o3 : Obj := .cells #[.slice (some ⟨w.heap.size + 1, 0, none⟩) n n] 43
  let o4 : Obj := .cells #[.bool false] 4
  let vf : Value := .func (.func 11) #[] #[.pointer (some ⟨w.heap.size + 1 + 1, 0, none⟩), .pointer (some ⟨w.heap.size, 0, none⟩), .pointer (some ⟨w.heap.size + 1 + 1 + 1, 0, none⟩), .pointer (some ⟨w.heap.size + 1 + 1 + 1 + 1, 0, none⟩)]
  let o5 : Obj := .cells #[vf] 44
  show Calls Tryz.prog 11 _ (((((w.alloc o1).alloc o2).alloc o3).alloc o4).alloc o5) _
  have b5 := Boxed.new ((((w.alloc o1).alloc o2).alloc o3).alloc o4) 44 vf
  have b4 := (Boxed.new (((w.alloc o1).alloc o2).alloc o3) 4 (.bool false)).alloc o5
  have b3 := ((Boxed.new ((w.alloc o1).alloc o2) 43 (.slice (some ⟨w.heap.size + 1, 0, none⟩) n n)).alloc o4).alloc o5
  have r2 := (((World.rowIs_made (w.alloc o1) (.int .i64 0) n 3).alloc o3).alloc o4).alloc o5
  have h1 : (((((w.alloc o1).alloc o2).alloc o3).alloc o4).alloc o5).heap[w.heap.size]? = some o1 :=
    (Below.heap_alloc _ _ _ (by simp; omega)).trans ((Below.heap_alloc _ _ _ (by simp; omega)).trans ((Below.heap_alloc _ _ _ (by simp; omega)).trans ((Below.heap_alloc _ _ _ (by simp)).trans (World.alloc_heap_new w _))))
  rw [World.size_alloc, World.size_alloc, World.size_alloc, World.size_alloc] at b5
  rw [World.size_alloc, World.size_alloc, World.size_alloc] at b4
  rw [World.size_alloc, World.size_alloc] at b3
  rw [World.size_alloc] at r2
  have hB : Below w.heap.size w (((((w.alloc o1).alloc o2).alloc o3).alloc o4).alloc o5) := ((((((Below.refl _ w).alloc (Nat.le_refl _) o1).alloc (by simp) o2).alloc (by simp; omega) o3).alloc (by simp; omega) o4).alloc (by simp; omega) o5)
  generalize (((((w.alloc o1).alloc o2).alloc o3).alloc o4).alloc o5) = W at *
  have hS : Cs W (w.heap.size + 1) (w.heap.size + 1 + 1 + 1) n (fun _ => 0) false := ⟨r2, b4, fun _ => by omega⟩
  have hC : Cw W (w.heap.size + 1) (w.heap.size + 1 + 1) w.heap.size (w.heap.size + 1 + 1 + 1) (w.heap.size + 1 + 1 + 1 + 1) R RB n nx := by
    refine ⟨b3, h1, b5, by omega, ?_, fun p hp => ?_⟩
    · obtain ⟨oa, c, g1, _⟩ := hR 0 hn0
      have := cellLt g1
      rw [addBlock] at this
      omega
    · obtain ⟨oa, c, g1, g2⟩ := hR p hp
      refine ⟨oa, c, (hB.cell (cellLt g1)).trans g1, fun j q hj => ?_⟩
      obtain ⟨a, e, hc⟩ := g2 j q hj
      have := cellLt hc
      have h' := this
      rw [addBlock] at h'
      exact ⟨a, e, by omega, (hB.cell this).trans hc⟩
  have e1 : (fun _ : Nat => (0 : Nat) = 1) = fun _ => False := by funext _; simp
  have e2 : (fun _ : Nat => (0 : Nat) = 2) = fun _ => False := by funext _; simp
  have hQ : CyQ nx 0 (fun _ => (0 : Nat) = 1) (fun _ => (0 : Nat) = 2) (false = true) := by
    rw [e1, e2]
    have e3 : (false = true) = False := by simp
    rw [e3]; exact CyQ.first
  refine (cyc1_ok hn hnx hnl _ W (fun _ => 0) false 0 (Nat.lt_succ_self _) hn0 hS hC hQ).mono ?_
  rintro e w' ⟨hv, st', f', g1, g2, g3⟩
  refine ⟨hv, f', g1.fnd, ⟨g2.os.trans hB.os, g2.tape.trans hB.tape, g2.output.trans hB.output, Nat.le_trans hB.size g2.size, fun i hi => (g2.block i (Nat.lt_of_lt_of_le hi hB.size) (by omega) (by omega)).trans (hB.block i hi)⟩, ?_⟩
  rw [e1, e2] at g3
  have e3 : (false = true) = False := by simp
  rw [e3] at g3
  exact g3.all
set_option maxRecDepth 100000 in
set_option maxHeartbeats 1000000 in
theorem Cyclic_ok {w : World} {oa : Option Addr} {n c : Nat} {nx : Nat → List Nat} (h : NxOk w oa n c nx) (hn0 : 0 < n) :
    Calls Tryz.prog 5 #[.slice oa n c] w fun e w' => BoolR e (Cyc nx) ∧ Below w.heap.size w w' := by
  have hw := weave_nx h
  have hn := h.le
  have A : Hid (NxOk w oa n c nx) := h
  clear h
  have hmk := run_make_row' (P := Tryz.prog) 43 3 (.int .i64 0) 8 (by kernel_rfl) (by kernel_rfl) rfl .i64 .i64 n (by omega) (by omega)
  go_enter Tryz.func5, Tryz.ntmps5
  go_wp2_with (first
    | (go_at_call 10; refine hw.mono ?_; rintro e w2 ⟨BN, BB, rfl, hN, hB, hbl⟩; have hc := cyc_start (RB := ⟨BB, 0, none⟩) hn hn0 A.out.lt A.out.len w2 hN; unfold cyW at hc)
    | (go_at_call 11; refine hc.mono ?_; rintro e w3 ⟨⟨v3, rfl⟩, f, hf, hb3, hcy⟩; have cf := hf.cell)
    | fail)
  go_ret
  exact ⟨⟨f, rfl, hcy⟩, hbl.trans (hb3.mono hbl.size)⟩
set_option maxRecDepth 100000 in
set_option maxHeartbeats 1000000 in
theorem list_ok (B c n x : Nat) (hn : n ≤ 64) (w : World) (hW : Wd w B x) : Calls Tryz.prog 37 #[.slice (some ⟨B, 0, none⟩) 1 c, .int .i64 (n : Nat)] w fun e w' => ∃ v, e = .returned v ∧ w'.ownsRow w.heap.size 3 1 v ((List.range n).filter fun q => x.testBit q).length (rowI ((List.range n).filter fun q => x.testBit q)) ∧ Below w.heap.size w w' := by
  obtain ⟨i0, hi0, hz0, hz1, hz2⟩ := info_parts info3
  go_enter Tryz.func37, Tryz.ntmps37
  go_wp2
  go_loopw [5, 8] (fun v5 v8 wr => ∃ p : Nat, p ≤ n ∧ v8 = .int .i64 (p : Nat) ∧ wr.ownsRow w.heap.size 3 1 v5 ((List.range p).filter fun q => x.testBit q).length (rowI ((List.range p).filter fun q => x.testBit q)) ∧ Below w.heap.size w wr) (fun _ v _ => n - (intOf v).toNat)
  case atStart => exact ⟨0, Nat.zero_le _, rfl, World.ownsRow_nil _ _ _ _, Below.refl _ _⟩
  case round =>
    obtain ⟨p, hp, rfl, ho, hb⟩ := hrel
    have hWr : Wd wr B x := ⟨(hb.block B hW.lt).trans hW.1, hW.2⟩
    by_cases hlt : p < n
    · have hlen := List.length_filter_le (fun q => x.testBit q) (List.range p)
      rw [List.length_range] at hlen
      have hsz := hb.size
      obtain ⟨L, hL⟩ : ∃ L : List Nat, Hid (L = (List.range p).filter fun q => x.testBit q) := ⟨_, rfl⟩
      rw [← hL.out] at ho hlen
      have hsucc : (List.range (p + 1)).filter (fun q => x.testBit q) = L ++ if x.testBit p = true then [p] else [] := by
        rw [List.range_succ, List.filter_append, ← hL.out]
        by_cases hx : x.testBit p = true <;> simp [hx]
      have S : Hid ((List.range (p + 1)).filter (fun q => x.testBit q) = L ++ if x.testBit p = true then [p] else []) := hsucc
      clear hsucc
      cases hx : x.testBit p with
      | false =>
        go_wp2_with (first
          | (go_at_call 30; refine (has_ok B c p x _ hWr (by omega)).mono ?_; rintro e w' ⟨rfl, rfl⟩; rw [hx])
          | fail)
        go_roundw
        case rel =>
          refine ⟨p + 1, hlt, by simp, ?_, hb⟩
          rw [S.out, hx]
          simpa using ho
        case measure =>
          show n - (intOf (Value.int .i64 ((p + 1 : Nat) : Int))).toNat < n - (intOf (Value.int .i64 (p : Nat))).toNat
          simp only [intOf, Int.toNat_natCast]
          omega
      | true =>
        go_wp2_with (first
          | (go_at_call 30; refine (has_ok B c p x _ hWr (by omega)).mono ?_; rintro e w' ⟨rfl, rfl⟩; rw [hx])
          | (at_builtin; refine wpList_append_lies _ rfl _ _ _ rfl w.heap.size 3 i0 _ 1 8 Tryz.underlying43 hi0 hz0 hz1 hz2 rfl (by omega) _ _ _ rfl (ho.alloc _) ⟨w'.heap.size, 0, none⟩ 1 1 [.int .i64 (p : Nat)] rfl rfl (World.news_of_block (cs := #[.int .i64 (p : Nat)]) (t := 3) (fr := (0, 0)) (heap_alloc_new w' _)) (by simp [Value.oneCell']) (by omega) (by simp only [maxLen]; omega) (by omega) (by simp; omega) (w'.heap.size + 1) (by simp) ?_; intro gg cap w1 hown1 hgrow hat hlt1)
          | fail)
        go_roundw
        case rel =>
          refine ⟨p + 1, hlt, by simp, ?_, ?_⟩
          · rw [S.out, hx, if_pos rfl, List.length_append]
            have e2 : rowI (L ++ [p]) = rowI L ++ [.int .i64 (p : Nat)] := by simp [rowI]
            rw [e2]
            exact hown1
          · refine (hb.alloc hsz (.cells #[.int .i64 (p : Nat)] 3)).grown hgrow (by simp; omega) fun k hk => ?_
            exact (own_lt ho hk).1
        case measure =>
          show n - (intOf (Value.int .i64 ((p + 1 : Nat) : Int))).toNat < n - (intOf (Value.int .i64 (p : Nat))).toNat
          simp only [intOf, Int.toNat_natCast]
          omega
    · have e : p = n := by omega
      subst e
      go_wp2
      go_ret
      exact ⟨_, rfl, ho, hb⟩
set_option maxRecDepth 100000 in
set_option maxHeartbeats 1000000 in
theorem bar_ok (W : World) (bH bR Br xr p : Nat) (h : Int) (hH : Boxed W bH 3 (.int .i64 h)) (hR : Boxed W bR 65 (.slice (some ⟨Br, 0, none⟩) 1 1)) (hW : Wd W Br xr) (hp : p < 64) :
    Calls Tryz.prog 36 #[.int .i64 (p : Nat), .pointer (some ⟨bH, 0, none⟩), .pointer (some ⟨bR, 0, none⟩)] W fun e w' => e = .returned (.bool (decide ((p : Int) = h) || !xr.testBit p)) ∧ w' = W := by
  have c1 := hH.cell
  have c2 := hR.cell
  by_cases e : (p : Int) = h
  · have hd : ((p : Int) == h) = true := by simp [e]
    subst e
    go_enter Tryz.func36, Tryz.ntmps36
    go_wp2
    go_ret
    exact ⟨by simp, rfl⟩
  · have hd : ((p : Int) == h) = false := by simp [e]
    go_enter Tryz.func36, Tryz.ntmps36
    go_wp2_with (first
      | (go_at_call 30; refine (has_ok Br 1 p xr _ hW hp).mono ?_; rintro e w' ⟨rfl, rfl⟩)
      | fail)
    go_ret
    exact ⟨by simp [e], rfl⟩
theorem info37 : (Tryz.prog.info? 52).map (fun i => (i.zero, i.size, i.bytes)) = some (some (.agg #[.int .i64 0, .int .i64 0]), 2, 16) := by kernel_rfl
theorem own_lt2 {W : World} {base e size g : Nat} {v : Value} {k : Nat} {xs : List Value} (h : W.ownsRow base e size v k xs) (e : v.ownBlock = some g) : base ≤ g ∧ g < W.heap.size := by
  rcases h.2 with ⟨rfl, rfl⟩ | ⟨g', cap, cur, rfl, hb, hg, _⟩
  · simp [Value.ownBlock] at e
  · simp [Value.ownBlock] at e
    subst e
    exact ⟨hb, (Array.getElem?_eq_some_iff.1 hg).1⟩
def fixV (L : List (Nat × Nat)) : List Value := L.flatMap fun x => [.int .i64 (x.1 : Nat), .int .i64 (x.2 : Nat)]
def backL (nx : Nat → List Nat) (g : Nat → Nat → Bool) (n : Nat) : List (Nat × Nat) := (List.range n).flatMap fun p => ((nx p).filter fun q => g p q).map fun q => (p, q)
def backK (nx : Nat → List Nat) (g : Nat → Nat → Bool) (p k : Nat) : List (Nat × Nat) := backL nx g p ++ (((nx p).take k).filter fun q => g p q).map fun q => (p, q)
theorem backK_next {nx : Nat → List Nat} {g : Nat → Nat → Bool} {p k q : Nat} (h : (nx p)[k]? = some q) : backK nx g p (k + 1) = backK nx g p k ++ if g p q = true then [(p, q)] else [] := by
  unfold backK
  rw [List.take_add_one, h, List.append_assoc]
  congr 1
  simp only [Option.toList, List.filter_append, List.map_append]
  congr 1
  by_cases e : g p q = true <;> simp [e]
theorem backK_done {nx : Nat → List Nat} {g : Nat → Nat → Bool} {p k : Nat} (h : (nx p).length ≤ k) : backK nx g p k = backL nx g (p + 1) := by
  unfold backK backL
  rw [List.take_of_length_le h, List.range_succ, List.flatMap_append]
  simp
theorem backL_len {nx : Nat → List Nat} {g : Nat → Nat → Bool} (hnl : ∀ p, (nx p).length ≤ 1000) : ∀ n, (backL nx g n).length ≤ 1000 * n
  | 0 => by simp [backL]
  | n + 1 => by
    have ih := backL_len (g := g) hnl n
    rw [← backK_done (Nat.le_refl _)]
    unfold backK
    rw [List.length_append, List.length_map]
    have h1 := List.length_filter_le (fun q => g n q) ((nx n).take (nx n).length)
    have h2 := List.length_take_le (nx n).length (nx n)
    have := hnl n
    omega
theorem own_weak2 {W : World} {base base' e size : Nat} {v : Value} {k : Nat} {xs : List Value} (h : W.ownsRow base e size v k xs) (hb : base' ≤ base) : W.ownsRow base' e size v k xs := by
  refine ⟨h.1, ?_⟩
  rcases h.2 with h | ⟨g, cap, cur, e, hg, r⟩
  · exact .inl h
  · exact .inr ⟨g, cap, cur, e, Nat.le_trans hb hg, r⟩
theorem backK_len {nx : Nat → List Nat} {g : Nat → Nat → Bool} (hnl : ∀ p, (nx p).length ≤ 1000) (p k : Nat) : (backK nx g p k).length ≤ 1000 * p + 1000 := by
  unfold backK
  rw [List.length_append, List.length_map]
  have h0 := backL_len (g := g) hnl p
  have h1 := List.length_filter_le (fun q => g p q) ((nx p).take k)
  have h2 : ((nx p).take k).length ≤ (nx p).length := by rw [List.length_take]; omega
  have := hnl p
  omega
set_option maxRecDepth 100000 in
set_option maxHeartbeats 1000000 in
theorem backs_ok {n cN cB : Nat} {RN RB : Addr} {nx : Nat → List Nat} (hn : n ≤ 64) (hn0 : 0 < n) (hnx : ∀ p, ∀ q ∈ nx p, q < n) (hnl : ∀ p, (nx p).length ≤ 1000) (w : World) (hRN : Rws0 w RN n nx) (hRB : Rws0 w RB n (bkw nx n)) :
    Calls Tryz.prog 31 #[.agg #[.slice (some RN) n cN, .slice (some RB) n cB]] w fun e w' => ∃ g v, e = .returned v ∧ (w'.ownsRow w.heap.size 52 2 v (backL nx g n).length (fixV (backL nx g n)) ∧ Below w.heap.size w w' ∧ ∀ p, p < n → ∀ a, g p a = true ↔ (Eng.Way nx (fun _ => False) 0 p ∧ Dmn nx n a p)) := by
  obtain ⟨i0, hi0, hz0, hz1, hz2⟩ := info_parts info37
  have hB1 : Below w.heap.size w (w.alloc (.cells #[.slice (some RN) n cN, .slice (some RB) n cB] 41)) := (Below.refl _ w).alloc (Nat.le_refl _) _
  have hb1 := World.alloc_heap_new w (.cells #[.slice (some RN) n cN, .slice (some RB) n cB] 41)
  have d0 : (w.alloc (.cells #[.slice (some RN) n cN, .slice (some RB) n cB] 41)).cell? ⟨w.heap.size, 0, none⟩ = some (.slice (some RN) n cN) := by
    unfold World.cell?
    simp only [hb1]
    rfl
  have hR1 := hRN.kept hB1
  go_enter Tryz.func31, Tryz.ntmps31
  go_wp2_with (first
    | (go_at_call 29; refine (aheads_ok hn hn0 hnx hnl _ (hRN.kept hB1) (hRB.kept hB1)).mono ?_; rintro e w2 ⟨Bo, rfl, f, bs, x, hA, hx⟩; have d1 := (hA.below.cell (cellLt d0)).trans d0)
    | fail)
  have hR2 := hR1.kept hA.below
  have hsz := hB1.size
  have hsz2 := hA.below.size
  have A : Hid (Ah w w2 Bo n f (fun _ => True) bs x ∧ ∀ p, p < n → ∀ a, (x p).testBit a = true ↔ (Eng.Way nx (fun _ => False) 0 p ∧ Dmn nx n a p)) := ⟨⟨hA.row, hA.val, hA.wd, Nat.le_trans hsz hA.base, hB1.trans (hA.below.mono hsz)⟩, hx⟩
  clear d0 hR1 hA hx hb1 hB1 hRN hRB
  go_loopw [4, 14] (fun v4 v14 wr => ∃ p : Nat, p ≤ n ∧ v14 = .int .i64 (p : Nat) ∧ wr.ownsRow w2.heap.size 52 2 v4 (backL nx (fun p q => (x p).testBit q) p).length (fixV (backL nx (fun p q => (x p).testBit q) p)) ∧ Below w2.heap.size w2 wr) (fun _ v _ => n - (intOf v).toNat)
  case atStart => exact ⟨0, Nat.zero_le _, rfl, World.ownsRow_nil _ _ _ _, Below.refl _ _⟩
  case round =>
    obtain ⟨p, hp, rfl, ho, hb⟩ := hrel
    by_cases hlt : p < n
    · obtain ⟨oa, c, hr0, hrj⟩ := hR2 p hlt
      have e0 := (hb.cell (cellLt hr0)).trans hr0
      have hp0 : (0 : Int) ≤ (p : Int) := Int.natCast_nonneg _
      have hp1 : (p : Int) < (n : Int) := by omega
      have hl := hnl p
      have ho1 : wr.ownsRow w2.heap.size 52 2 u4 (backK nx (fun p q => (x p).testBit q) p 0).length (fixV (backK nx (fun p q => (x p).testBit q) p 0)) := by
        have e : backK nx (fun p q => (x p).testBit q) p 0 = backL nx (fun p q => (x p).testBit q) p := by simp [backK]
        rw [e]; exact ho
      clear ho
      go_wp2_with fail
      go_loopw [4, 21] (fun v4 v21 wr2 => ∃ k : Nat, k ≤ (nx p).length ∧ v21 = .int .i64 (k : Nat) ∧ wr2.ownsRow w2.heap.size 52 2 v4 (backK nx (fun p q => (x p).testBit q) p k).length (fixV (backK nx (fun p q => (x p).testBit q) p k)) ∧ Below w2.heap.size w2 wr2) (fun _ v _ => (nx p).length - (intOf v).toNat)
      case atStart => exact ⟨0, Nat.zero_le _, rfl, ho1, hb⟩
      case round =>
        clear ho1 hb e0
        obtain ⟨k, hk, rfl, ho, hb⟩ := hrel
        have hWp := (A.out.1.wd p hlt trivial).kept (below_grown hb) (by simp)
        have cB := (hb.cell (cellLt (A.out.1.row.cell hlt))).trans (A.out.1.row.cell hlt)
        rw [A.out.1.val p hlt trivial] at cB
        unfold vSet at cB
        by_cases hkl : k < (nx p).length
        · have hkq : (nx p)[k]? = some (nx p)[k] := List.getElem?_eq_getElem hkl
          have hq : (nx p)[k] < n := hnx p _ (List.getElem_mem hkl)
          generalize (nx p)[k] = q at *
          obtain ⟨a, rfl, hac⟩ := hrj k q hkq
          have hac2 := (hb.cell (cellLt hac)).trans hac
          have hlen := backK_len (g := fun p q => (x p).testBit q) hnl p k
          have S : Hid (backK nx (fun p q => (x p).testBit q) p (k + 1) = backK nx (fun p q => (x p).testBit q) p k ++ if (x p).testBit q = true then [(p, q)] else []) := backK_next hkq
          have hs2 := hb.size
          generalize backK nx (fun p q => (x p).testBit q) p k = L at *
          clear hrj hac hkq
          by_cases hx : (x p).testBit q = true
          · go_wp2_with (first
              | (go_at_call 30; refine (has_ok (bs p) 1 q (x p) _ hWp (by omega)).mono ?_; rintro e w' ⟨rfl, rfl⟩; rw [hx])
              | (at_builtin; refine wpList_append_lies _ rfl _ _ _ rfl w2.heap.size 52 i0 _ 2 16 Tryz.underlying49 hi0 hz0 hz1 hz2 rfl (by omega) _ _ _ rfl (ho.alloc _) ⟨w'.heap.size, 0, none⟩ 1 1 [.int .i64 (p : Nat), .int .i64 (q : Nat)] rfl rfl (World.news_of_block (cs := #[.int .i64 (p : Nat), .int .i64 (q : Nat)]) (t := 52) (fr := (0, 0)) (heap_alloc_new w' _)) (by simp [Value.oneCell']) (by omega) (by simp only [maxLen]; omega) (by omega) (by simp; omega) (w'.heap.size + 1) (by simp) ?_; intro gg cap w1 hown1 hgrow hat hlt1)
              | fail)
            go_roundw
            case rel =>
              refine ⟨k + 1, hkl, by simp, ?_, ?_⟩
              · rw [S.out, if_pos hx, List.length_append]
                have e2 : fixV (L ++ [(p, q)]) = fixV L ++ [.int .i64 (p : Nat), .int .i64 (q : Nat)] := by simp [fixV]
                rw [e2]
                exact hown1
              · refine (hb.alloc hs2 (.cells #[.int .i64 (p : Nat), .int .i64 (q : Nat)] 52)).grown hgrow (by simp; omega) fun k hk => ?_
                exact (own_lt2 ho hk).1
            case measure =>
              show (nx p).length - (intOf (Value.int .i64 ((k + 1 : Nat) : Int))).toNat < (nx p).length - (intOf (Value.int .i64 (k : Nat))).toNat
              simp only [intOf, Int.toNat_natCast]
              omega
          · have hx : (x p).testBit q = false := by simpa using hx
            go_wp2_with (first
              | (go_at_call 30; refine (has_ok (bs p) 1 q (x p) _ hWp (by omega)).mono ?_; rintro e w' ⟨rfl, rfl⟩; rw [hx])
              | fail)
            go_roundw
            case rel =>
              refine ⟨k + 1, hkl, by simp, ?_, hb⟩
              rw [S.out, hx]
              simpa using ho
            case measure =>
              show (nx p).length - (intOf (Value.int .i64 ((k + 1 : Nat) : Int))).toNat < (nx p).length - (intOf (Value.int .i64 (k : Nat))).toNat
              simp only [intOf, Int.toNat_natCast]
              omega
        · rw [backK_done (by omega)] at ho
          go_wp2
          go_roundw
          case rel => exact ⟨p + 1, hlt, by simp, ho, hb⟩
          case measure =>
            show n - (intOf (Value.int .i64 ((p + 1 : Nat) : Int))).toNat < n - (intOf (Value.int .i64 (p : Nat))).toNat
            simp only [intOf, Int.toNat_natCast]
            omega
    · have e : p = n := by omega
      subst e
      go_wp2
      go_ret
      exact ⟨fun p q => (x p).testBit q, _, rfl, own_weak2 ho (by omega), A.out.1.below.trans (hb.mono (by omega)), fun p hp a => A.out.2 p hp a⟩
set_option maxRecDepth 100000 in
set_option maxHeartbeats 1000000 in
theorem Backs_ok {w : World} {oa : Option Addr} {n c : Nat} {nx : Nat → List Nat} (h : NxOk w oa n c nx) (hn0 : 0 < n) :
    Calls Tryz.prog 16 #[.slice oa n c] w fun e w' => ∃ g v, e = .returned v ∧ (w'.ownsRow w.heap.size 52 2 v (backL nx g n).length (fixV (backL nx g n)) ∧ Below w.heap.size w w' ∧ ∀ p, p < n → ∀ a, g p a = true ↔ (Eng.Way nx (fun _ => False) 0 p ∧ Dmn nx n a p)) := by
  have hw := weave_nx h
  have hn := h.le
  have A : Hid (NxOk w oa n c nx) := h
  clear h
  go_enter Tryz.func16, Tryz.ntmps16
  go_wp2_with (first
    | (go_at_call 10; refine hw.mono ?_; rintro e w2 ⟨BN, BB, rfl, hN, hB, hbl⟩)
    | (go_at_call 31; refine (backs_ok hn hn0 A.out.lt A.out.len w2 hN hB).mono ?_; rintro e w3 ⟨g, v, rfl, ho, hb3, hg⟩)
    | fail)
  go_ret
  exact ⟨g, v, rfl, own_weak2 ho hbl.size, hbl.trans (hb3.mono hbl.size), hg⟩
/-- an element of a row of pairs -/
theorem fixV_get {L : List (Nat × Nat)} {k : Nat} {x : Nat × Nat} (h : L[k]? = some x) : (fixV L)[k * 2]? = some (.int .i64 (x.1 : Nat)) ∧ (fixV L)[k * 2 + 1]? = some (.int .i64 (x.2 : Nat)) := by
  induction L generalizing k with
  | nil => simp at h
  | cons y L ih =>
    have e : fixV (y :: L) = [.int .i64 (y.1 : Nat), .int .i64 (y.2 : Nat)] ++ fixV L := rfl
    cases k with
    | zero =>
      simp at h; subst h
      rw [e]; simp
    | succ k =>
      have := ih (k := k) (by simpa using h)
      rw [e, List.getElem?_append_right (by simp; omega), List.getElem?_append_right (by simp; omega)]
      simp only [List.length_cons, List.length_nil]
      rw [show (k + 1) * 2 - (0 + 1 + 1) = k * 2 by omega, show (k + 1) * 2 + 1 - (0 + 1 + 1) = k * 2 + 1 by omega]
      exact this
/-- the ways back, from where it is come to -/
theorem way_back {nx : Nat → List Nat} {n : Nat} {bar : Nat → Prop} (hout : ∀ p, n ≤ p → nx p = []) {a b : Nat} : Eng.Way (bkw nx n) bar b a ↔ Eng.Way nx bar a b :=
  ⟨Eng.Way.back, fun h => h.turned hout⟩
set_option maxRecDepth 100000 in
set_option maxHeartbeats 1000000 in
theorem spread_zero (R : Addr) (cR : Nat) (w : World) : Calls Tryz.prog 32 #[.slice (some R) 0 cR, .int .i64 0, .func (.func 33) #[] #[]] w fun e w' => ∃ B, e = .returned (.slice (some ⟨B, 0, none⟩) 0 0) ∧ Below w.heap.size w w' := by
  have hd : (0 + 63) / 64 = 0 := by omega
  go_enter Tryz.func32, Tryz.ntmps32
  go_wp2_with (first
    | (go_at_call 34; refine (none_ok 0 _ (by omega)).mono ?_; rintro e w2 ⟨rfl, rfl⟩; rw [hd])
    | fail)
  go_ret
  exact ⟨_, rfl, (((((Below.refl _ w).alloc (Nat.le_refl _) _).alloc (by simp only [World.size_alloc]; omega) _).alloc (by simp only [World.size_alloc]; omega) _).alloc (by simp only [World.size_alloc]; omega) _).alloc (by simp only [World.size_alloc]; omega) _⟩
set_option maxRecDepth 100000 in
set_option maxHeartbeats 1000000 in
theorem Cyclic_zero {w : World} {oa : Option Addr} {c : Nat} {nx : Nat → List Nat} (h : NxOk w oa 0 c nx) :
    Calls Tryz.prog 5 #[.slice oa 0 c] w fun e w' => e = .returned (.bool false) ∧ Below w.heap.size w w' := by
  have hw := weave_nx h
  have hmk := run_make_row' (P := Tryz.prog) 43 3 (.int .i64 0) 8 (by kernel_rfl) (by kernel_rfl) rfl .i64 .i64 0 (by omega) (by omega)
  rw [show ((0 : Nat) : Int) = 0 from rfl] at hmk
  go_enter Tryz.func5, Tryz.ntmps5
  go_wp2_with (first
    | (go_at_call 10; refine hw.mono ?_; rintro e w2 ⟨BN, BB, rfl, hN, hB, hbl⟩; have hz := hbl.size)
    | fail)
  go_ret
  exact ⟨rfl, ((((hbl.alloc hz _).alloc (by simp only [World.size_alloc]; omega) _).alloc (by simp only [World.size_alloc]; omega) _).alloc (by simp only [World.size_alloc]; omega) _).alloc (by simp only [World.size_alloc]; omega) _⟩
set_option maxRecDepth 100000 in
set_option maxHeartbeats 1000000 in
theorem aheads_zero {cN cB : Nat} {RN RB : Addr} (w : World) :
    Calls Tryz.prog 29 #[.agg #[.slice (some RN) 0 cN, .slice (some RB) 0 cB]] w fun e w' => ∃ Bo, e = .returned (.slice (some ⟨Bo, 0, none⟩) 0 0) ∧ Below w.heap.size w w' := by
  have hmk := run_make_row' (P := Tryz.prog) 66 65 (.slice none 0 0) 24 (by kernel_rfl) (by kernel_rfl) rfl .i64 .i64 0 (by omega) (by omega)
  rw [show ((0 : Nat) : Int) = 0 from rfl] at hmk
  go_enter Tryz.func29, Tryz.ntmps29
  go_wp2_with (first
    | (go_at_call 32; refine (spread_zero _ _ _).mono ?_; rintro e w2 ⟨Br, rfl, hB2⟩)
    | fail)
  have hB : Below w.heap.size w (w2.alloc (.cells (madeCells #[.slice none 0 0] 0) 65)) := by
    have h1 : Below w.heap.size w (w.alloc (.cells #[.slice (some RN) 0 cN, .slice (some RB) 0 cB] 41)) := (Below.refl _ w).alloc (Nat.le_refl _) _
    exact (h1.trans (hB2.mono h1.size)).alloc (Nat.le_trans h1.size hB2.size) _
  clear hmk hB2
  go_loopw [22] (fun v wr => v = .int .i64 0 ∧ Below w.heap.size w wr) (fun _ _ => 0)
  case atStart => exact ⟨rfl, hB⟩
  case round =>
    clear hB
    obtain ⟨rfl, hB⟩ := hrel
    go_wp2
    go_loopw [7] (fun v wr => ∃ b : Bool, v = .bool b ∧ Below w.heap.size w wr) (fun v _ => bOf v)
    case atStart => exact ⟨true, rfl, hB⟩
    case round =>
      clear hB
      obtain ⟨b, rfl, hB⟩ := hrel
      cases b with
      | true =>
        go_wp2
        go_loopw [7, 8] (fun v7 v8 wr => v7 = .bool false ∧ v8 = .int .i64 1 ∧ Below w.heap.size w wr) (fun _ _ _ => 0)
        case atStart => exact ⟨rfl, rfl, hB⟩
        case round =>
          clear hB
          obtain ⟨rfl, rfl, hB⟩ := hrel
          go_wp2
          go_roundw
          case rel => exact ⟨false, rfl, hB⟩
          case measure => decide
      | false =>
        go_wp2
        go_loopw [90] (fun v wr => v = .int .i64 0 ∧ Below w.heap.size w wr) (fun _ _ => 0)
        case atStart => exact ⟨rfl, hB⟩
        case round =>
          clear hB
          obtain ⟨rfl, hB⟩ := hrel
          go_wp2
          go_ret
          exact ⟨_, rfl, hB⟩
set_option maxRecDepth 100000 in
set_option maxHeartbeats 1000000 in
theorem backs_zero {cN cB : Nat} {RN RB : Addr} (w : World) :
    Calls Tryz.prog 31 #[.agg #[.slice (some RN) 0 cN, .slice (some RB) 0 cB]] w fun e w' => e = .returned (.slice none 0 0) ∧ Below w.heap.size w w' := by
  have hb1 := World.alloc_heap_new w (.cells #[.slice (some RN) 0 cN, .slice (some RB) 0 cB] 41)
  have h1 : Below w.heap.size w (w.alloc (.cells #[.slice (some RN) 0 cN, .slice (some RB) 0 cB] 41)) := (Below.refl _ w).alloc (Nat.le_refl _) _
  have d0 : (w.alloc (.cells #[.slice (some RN) 0 cN, .slice (some RB) 0 cB] 41)).cell? ⟨w.heap.size, 0, none⟩ = some (.slice (some RN) 0 cN) := by
    unfold World.cell?
    simp only [hb1]
    rfl
  go_enter Tryz.func31, Tryz.ntmps31
  go_wp2_with (first
    | (go_at_call 29; refine (aheads_zero _).mono ?_; rintro e w2 ⟨Bo, rfl, hB2⟩; have d1 := (hB2.cell (cellLt d0)).trans d0)
    | fail)
  have hB : Below w.heap.size w w2 := h1.trans (hB2.mono h1.size)
  clear d0 hb1 hB2
  go_loopw [4, 14] (fun v4 v wr => v4 = .slice none 0 0 ∧ v = .int .i64 0 ∧ Below w.heap.size w wr) (fun _ _ _ => 0)
  case atStart => exact ⟨rfl, rfl, hB⟩
  case round =>
    clear hB
    obtain ⟨rfl, rfl, hB⟩ := hrel
    go_wp2
    go_ret
    exact ⟨rfl, hB⟩
set_option maxRecDepth 100000 in
set_option maxHeartbeats 1000000 in
theorem Backs_zero {w : World} {oa : Option Addr} {c : Nat} {nx : Nat → List Nat} (h : NxOk w oa 0 c nx) :
    Calls Tryz.prog 16 #[.slice oa 0 c] w fun e w' => e = .returned (.slice none 0 0) ∧ Below w.heap.size w w' := by
  have hw := weave_nx h
  go_enter Tryz.func16, Tryz.ntmps16
  go_wp2_with (first
    | (go_at_call 10; refine hw.mono ?_; rintro e w2 ⟨BN, BB, rfl, hN, hB, hbl⟩)
    | (go_at_call 31; refine (backs_zero w2).mono ?_; rintro e w3 ⟨rfl, hb3⟩)
    | fail)
  go_ret
  exact ⟨rfl, hbl.trans (hb3.mono hbl.size)⟩
/-- a place is of the loop by the first k ways back -/
def LpK (nx : Nat → List Nat) (n : Nat) (br : Nat → Bool) (h : Int) (L : List (Nat × Nat)) (k q : Nat) : Prop :=
  ∃ i b t, i < k ∧ L[i]? = some (b, t) ∧ (t : Int) = h ∧ (q = t ∨ (b < n ∧ Eng.Way (bkw nx n) (fun y => br y = true) b q))
theorem LpK.none {nx : Nat → List Nat} {n : Nat} {br : Nat → Bool} {h : Int} {L : List (Nat × Nat)} {q : Nat} : ¬LpK nx n br h L 0 q := fun ⟨i, _, _, hi, _⟩ => by omega
theorem LpK.skip {nx : Nat → List Nat} {n : Nat} {br : Nat → Bool} {h : Int} {L : List (Nat × Nat)} {k b t q : Nat} (hk : L[k]? = some (b, t)) (ht : (t : Int) ≠ h) : LpK nx n br h L (k + 1) q ↔ LpK nx n br h L k q := by
  constructor
  · rintro ⟨i, b', t', hi, h1, h2, h3⟩
    by_cases e : i = k
    · subst e; rw [hk] at h1; cases h1; exact absurd h2 ht
    · exact ⟨i, b', t', by omega, h1, h2, h3⟩
  · rintro ⟨i, b', t', hi, h1⟩
    exact ⟨i, b', t', by omega, h1⟩
theorem LpK.step {nx : Nat → List Nat} {n : Nat} {br : Nat → Bool} {h : Int} {L : List (Nat × Nat)} {k b t q : Nat} (hk : L[k]? = some (b, t)) (ht : (t : Int) = h) :
    LpK nx n br h L (k + 1) q ↔ (LpK nx n br h L k q ∨ q = t) ∨ (b < n ∧ Eng.Way (bkw nx n) (fun y => br y = true) b q) := by
  constructor
  · rintro ⟨i, b', t', hi, h1, h2, h3⟩
    by_cases e : i = k
    · subst e; rw [hk] at h1; cases h1
      exact h3.elim (fun e => .inl (.inr e)) .inr
    · exact .inl (.inl ⟨i, b', t', by omega, h1, h2, h3⟩)
  · rintro ((⟨i, b', t', hi, h1⟩ | e) | e)
    · exact ⟨i, b', t', by omega, h1⟩
    · exact ⟨k, b, t, by omega, hk, ht, .inl e⟩
    · exact ⟨k, b, t, by omega, hk, ht, .inr e⟩
theorem NxOk.alloc {w : World} {oa : Option Addr} {n c : Nat} {nx : Nat → List Nat} (h : NxOk w oa n c nx) (o : Obj) : NxOk (w.alloc o) oa n c nx :=
  ⟨h.le, h.lt, h.len, h.nd, fun p hp W hW => h.call p hp W (((Below.refl _ w).alloc (Nat.le_refl _) o).trans (hW.mono (by simp)))⟩
theorem own_form2 {W : World} {base k : Nat} {v : Value} {L : List (Nat × Nat)} (h : W.ownsRow base 52 2 v k (fixV L)) : ∃ oa c, v = .slice oa k c ∧ ∀ j x, L[j]? = some x → ∃ g : Nat, oa = some ⟨g, 0, none⟩ ∧ base ≤ g ∧ W.cell? ((⟨g, 0, none⟩ : Addr).add (j * 2)) = some (.int .i64 (x.1 : Nat)) ∧ W.cell? ((⟨g, 0, none⟩ : Addr).add (j * 2 + 1)) = some (.int .i64 (x.2 : Nat)) := by
  have h' := h
  rcases h.2 with ⟨rfl, rfl⟩ | ⟨g, cap, cur, rfl, hb, hg, hk, hcm, hcs, ht⟩
  · refine ⟨none, 0, rfl, fun j x hj => ?_⟩
    have := h.1
    have h2 := (fixV_get hj).1
    simp at this
    rw [this] at h2
    simp at h2
  · refine ⟨_, cap, rfl, fun j x hj => ⟨g, rfl, hb, ?_, ?_⟩⟩
    · exact h'.cells (g := g) rfl _ _ (fixV_get hj).1
    · exact h'.cells (g := g) rfl _ _ (fixV_get hj).2
theorem backL_mem {nx : Nat → List Nat} {g : Nat → Nat → Bool} {n b t : Nat} : (b, t) ∈ backL nx g n ↔ b < n ∧ t ∈ nx b ∧ g b t = true := by
  unfold backL
  simp only [List.mem_flatMap, List.mem_range, List.mem_map, List.mem_filter, Prod.mk.injEq]
  constructor
  · rintro ⟨p, h1, q, ⟨h2, h3⟩, rfl, rfl⟩; exact ⟨h1, h2, h3⟩
  · rintro ⟨h1, h2, h3⟩; exact ⟨b, h1, t, ⟨h2, h3⟩, rfl, rfl⟩
/-- what is known ahead of the loop over the ways back -/
structure Lq (w5 : World) (bH bR bW Br xr BN BB S n : Nat) (h : Int) (nx : Nat → List Nat) : Prop where
  hd : Boxed w5 bH 3 (.int .i64 h)
  rd : Boxed w5 bR 65 (.slice (some ⟨Br, 0, none⟩) 1 1)
  wr : Wd w5 Br xr
  web : w5.heap[bW]? = some (.cells #[.slice (some ⟨BN, 0, none⟩) n n, .slice (some ⟨BB, 0, none⟩) n n] 41 (0, 0))
  back : Rws w5 S ⟨BB, 0, none⟩ n (bkw nx n)
  ne : bH ≠ S ∧ bR ≠ S ∧ bW ≠ S ∧ Br ≠ S
theorem Lq.kept {w5 wr : World} {bH bR bW Br xr BN BB S n : Nat} {h : Int} {nx : Nat → List Nat} (A : Lq w5 bH bR bW Br xr BN BB S n h nx) (hg : w5.grownBy wr (some S)) : Lq wr bH bR bW Br xr BN BB S n h nx :=
  ⟨A.hd.kept hg (fun e => A.ne.1 (Option.some.inj e)), A.rd.kept hg (fun e => A.ne.2.1 (Option.some.inj e)), A.wr.kept hg (fun e => A.ne.2.2.2 (Option.some.inj e)),
   (hg.block bW (Array.getElem?_eq_some_iff.1 A.web).1 (fun e => A.ne.2.2.1 (Option.some.inj e))).trans A.web, A.back.kept hg, A.ne⟩
theorem Rws.zero {W : World} {B : Nat} {R : Addr} {n : Nat} {nx : Nat → List Nat} (h : Rws W B R n nx) : Rws0 W R n nx := fun p hp => by
  obtain ⟨oa, c, h1, h2⟩ := h.2 p hp
  exact ⟨oa, c, h1, fun j q hj => by obtain ⟨a, e, _, hc⟩ := h2 j q hj; exact ⟨a, e, hc⟩⟩
theorem bkw_lt {nx : Nat → List Nat} {n : Nat} : ∀ p, ∀ q ∈ bkw nx n p, q < n := fun p q hq => (Eng.bkw_mem.1 hq).1
theorem bkw_len {nx : Nat → List Nat} {n : Nat} (hn : n ≤ 64) : ∀ p, (bkw nx n p).length ≤ 1000 := fun p => by
  have := List.length_filter_le (fun q => decide (p ∈ nx q)) (List.range n)
  rw [List.length_range] at this
  unfold bkw; omega
/-- the ways back to a head, from where it is come to -/
theorem lp_spread {w : World} {bH bR bW Br xr BN BB S n : Nat} {h : Int} {nx : Nat → List Nat} (A : Lq w bH bR bW Br xr BN BB S n h nx) (hn : n ≤ 64) (hn0 : 0 < n) (b : Nat) (hb : b < n) :
    Calls Tryz.prog 32 #[.slice (some ⟨BB, 0, none⟩) n n, .int .i64 (b : Nat), .func (.func 36) #[] #[.pointer (some ⟨bH, 0, none⟩), .pointer (some ⟨bR, 0, none⟩)]] w fun e w' => ∃ B y, e = .returned (.slice (some ⟨B, 0, none⟩) 1 1) ∧ Wd w' B y ∧ w.heap.size ≤ B ∧ Below w.heap.size w w' ∧ ∀ q, y.testBit q = true ↔ (b < n ∧ Eng.Way (bkw nx n) (fun y => (decide ((y : Int) = h) || !xr.testBit y) = true) b q) := by
  refine (spread_ok (fb := 36) (caps := #[.pointer (some ⟨bH, 0, none⟩), .pointer (some ⟨bR, 0, none⟩)]) (cR := n) (br := fun y => decide ((y : Int) = h) || !xr.testBit y) hn hn0 bkw_lt (bkw_len hn) (b : Nat) (by omega) w A.back.zero (fun args w => (enters_of Tryz.func36 (by kernel_rfl) rfl) args w) (fun W' hW q hq => ?_)).mono ?_
  · exact bar_ok W' bH bR Br xr q h (A.hd.kept (below_grown hW) (by simp)) (A.rd.kept (below_grown hW) (by simp)) (A.wr.kept (below_grown hW) (by simp)) (by omega)
  · rintro e w' ⟨B, rfl, y, h1, h2, h3, h4⟩
    exact ⟨B, y, rfl, h1, h2, h3, fun q => (h4 q).trans ⟨fun g => ⟨hb, g.2.2⟩, fun g => ⟨by omega, by omega, g.2⟩⟩⟩
theorem add_at (g k : Nat) : (⟨g, 0, none⟩ : Addr).add k = ⟨g, k, none⟩ := by unfold Addr.add; split <;> simp_all
theorem grownS {W W' : World} {S : Nat} (h : Below W.heap.size W W') : W.grownBy W' (some S) := ⟨h.os, h.tape, h.output, h.size, fun k hk _ => h.block k hk⟩
theorem web_cells {W : World} {B : Nat} {a b : Value} (h : W.heap[B]? = some (.cells #[a, b] 41 (0, 0))) : W.cell? ⟨B, 0, none⟩ = some a ∧ W.cell? ⟨B, 1, none⟩ = some b := by
  unfold World.cell?
  simp only [h]
  exact ⟨rfl, rfl⟩
theorem Lq.start {w w2 w3 w4 : World} {Br xr BN BB n : Nat} {h : Int} {nx : Nat → List Nat} (hn0 : 0 < n)
    (hbl : Below (w.alloc (.cells #[.int .i64 h] 3)).heap.size (w.alloc (.cells #[.int .i64 h] 3)) w2)
    (hB : Rws0 w2 ⟨BB, 0, none⟩ n (bkw nx n))
    (h3 : Below (w2.alloc (.cells #[.slice (some ⟨BN, 0, none⟩) n n, .slice (some ⟨BB, 0, none⟩) n n] 41)).heap.size (w2.alloc (.cells #[.slice (some ⟨BN, 0, none⟩) n n, .slice (some ⟨BB, 0, none⟩) n n] 41)) w3)
    (hW : Wd w3 Br xr) (hw4 : w4 = (w3.alloc (.cells #[.slice (some ⟨Br, 0, none⟩) 1 1] 65)).alloc (.cells (madeCells #[.int .u64 0] 1) 71)) :
    Lq w4 w.heap.size w3.heap.size w2.heap.size Br xr BN BB (w3.heap.size + 1) n h nx ∧ Wd w4 (w3.heap.size + 1) 0 ∧ Below w.heap.size w w4 ∧ Below w2.heap.size w2 w4 ∧ Below w3.heap.size w3 w4 ∧ w4.heap.size = w3.heap.size + 1 + 1 := by
  have hH := Boxed.new w 3 (.int .i64 h)
  have hw1 := World.alloc_heap_new w2 (.cells #[.slice (some ⟨BN, 0, none⟩) n n, .slice (some ⟨BB, 0, none⟩) n n] 41)
  have b34 : Below w3.heap.size w3 w4 := by rw [hw4]; exact ((Below.refl _ w3).alloc (Nat.le_refl _) _).alloc (by simp) _
  have s2 := hbl.size
  have s3 := h3.size
  have s4 := b34.size
  rw [World.size_alloc] at s2 s3
  have b24 : Below w2.heap.size w2 w4 := (((Below.refl _ w2).alloc (Nat.le_refl _) _).trans (h3.mono (by simp))).trans (b34.mono (by omega))
  have b2a4 := h3.trans (b34.mono h3.size)
  have b14 := hbl.trans (b24.mono hbl.size)
  have b04 : Below w.heap.size w w4 := ((Below.refl _ w).alloc (Nat.le_refl _) _).trans (b14.mono (by simp))
  have hlt := hW.lt
  refine ⟨⟨hH.kept (below_grown b14) (by simp), ?_, hW.kept (below_grown b34) (by simp), (b2a4.block w2.heap.size (by simp)).trans hw1, hB.at_ hn0 b24 (by omega), by omega, by omega, by omega, by omega⟩, ⟨?_, by decide⟩, b04, b24, b34, by rw [hw4]; simp⟩
  · rw [hw4]; exact (Boxed.new w3 65 _).alloc _
  · rw [hw4]
    have := World.alloc_heap_new (w3.alloc (.cells #[.slice (some ⟨Br, 0, none⟩) 1 1] 65)) (.cells (madeCells #[.int .u64 0] 1) 71)
    rw [World.size_alloc] at this
    rw [this, made1]; rfl
set_option maxRecDepth 100000 in
set_option maxHeartbeats 1000000 in
theorem Loop_ok {w : World} {oa : Option Addr} {n c : Nat} {nx : Nat → List Nat} (hA : NxOk w oa n c nx) (hn0 : 0 < n) (h : Int) (hh : -9223372036854775808 ≤ h ∧ h ≤ 9223372036854775807) :
    Calls Tryz.prog 17 #[.slice oa n c, .int .i64 h] w fun e w' => ∃ v g xr x, e = .returned v ∧ (w'.ownsRow w.heap.size 3 1 v ((List.range n).filter fun q => Nat.testBit x q).length (rowI ((List.range n).filter fun q => Nat.testBit x q)) ∧ Below w.heap.size w w' ∧
      (∀ p, p < n → ∀ a, g p a = true ↔ (Eng.Way nx (fun _ => False) 0 p ∧ Dmn nx n a p)) ∧ (∀ q, Nat.testBit xr q = true ↔ Eng.Way nx (fun _ => False) 0 q) ∧
      ∀ q, Nat.testBit x q = true ↔ LpK nx n (fun y => decide ((y : Int) = h) || !Nat.testBit xr y) h (backL nx g n) (backL nx g n).length q) := by
  have hw := weave_nx (hA.alloc (.cells #[.int .i64 h] 3))
  have hn := hA.le
  have hd : (n + 63) / 64 = 1 := by omega
  have hH := Boxed.new w 3 (.int .i64 h)
  have hB0 : Below w.heap.size w (w.alloc (.cells #[.int .i64 h] 3)) := (Below.refl _ w).alloc (Nat.le_refl _) _
  have A : Hid (NxOk w oa n c nx) := hA
  clear hA
  go_enter Tryz.func17, Tryz.ntmps17
  go_wp2_with (first
    | (go_at_call 10; refine hw.mono ?_; clear hw; rintro e w2 ⟨BN, BB, rfl, hN, hB, hbl⟩; obtain ⟨d0, d1⟩ := web_cells (World.alloc_heap_new w2 (.cells #[.slice (some ⟨BN, 0, none⟩) n n, .slice (some ⟨BB, 0, none⟩) n n] 41)))
    | (go_at_call 32; refine (spread0_ok hn hn0 A.out.lt A.out.len _ (hN.kept ((Below.refl _ w2).alloc (Nat.le_refl _) _))).mono ?_; clear d0 d1; rintro e w3 ⟨Br, xr, rfl, hWr, hBr, hB3, hreach⟩)
    | (go_at_call 34; refine (none_ok n _ (by omega)).mono ?_; rintro e w4 ⟨rfl, hw4⟩; rw [hd] at hw4 ⊢; obtain ⟨hQ, hS, b04, b24, b34, z4⟩ := Lq.start hn0 hbl hB hB3 hWr hw4; obtain ⟨d0, d1⟩ := web_cells hQ.web; clear hw4)
    | (go_at_call 31; refine (backs_ok hn hn0 A.out.lt A.out.len _ (hN.kept b24) (hB.kept b24)).mono ?_; clear d0 d1; rintro e w5 ⟨g, v, rfl, ho, hb5, hg⟩; obtain ⟨oa5, c5, rfl, hfx⟩ := own_form2 ho)
    | fail)
  have hQ5 := hQ.kept (grownS (S := w3.heap.size + 1) hb5)
  have hS5 : Wd w5 (w3.heap.size + 1) 0 := hS.kept (below_grown hb5) (by simp)
  have hLl := backL_len (g := g) A.out.len n
  have R : Hid (Below w.heap.size w w4 ∧ Below w4.heap.size w4 w5 ∧ w.heap.size ≤ w3.heap.size) := ⟨b04, hb5, by have := hbl.size; have := hB3.size; rw [World.size_alloc] at *; omega⟩
  have G : Hid ((∀ p, p < n → ∀ a, g p a = true ↔ (Eng.Way nx (fun _ => False) 0 p ∧ Dmn nx n a p)) ∧ ∀ q, Nat.testBit xr q = true ↔ Eng.Way nx (fun _ => False) 0 q) := ⟨hg, hreach⟩
  have hmem : ∀ k b t, (backL nx g n)[k]? = some (b, t) → b < n ∧ t < n := fun k b t h => by
    have := backL_mem.1 (List.mem_of_getElem? h)
    exact ⟨this.1, A.out.lt _ _ this.2.1⟩
  have Z : Hid (w4.heap.size = w3.heap.size + 1 + 1) := z4
  clear hH hB0 hN hB hbl hWr hBr hB3 hreach hQ hS b04 b24 b34 hb5 hg ho z4
  generalize hSe : w3.heap.size + 1 = S at hQ5 hS5 Z ⊢
  go_loopw [23] (fun v wr => ∃ k x : Nat, k ≤ (backL nx g n).length ∧ v = .int .i64 (k : Nat) ∧ Wd wr S x ∧ w5.grownBy wr (some S) ∧ ∀ q, Nat.testBit x q = true ↔ LpK nx n (fun y => decide ((y : Int) = h) || !Nat.testBit xr y) h (backL nx g n) k q) (fun v _ => (backL nx g n).length - (intOf v).toNat)
  case atStart => exact ⟨0, 0, Nat.zero_le _, rfl, hS5, ⟨rfl, rfl, rfl, Nat.le_refl _, fun _ _ _ => rfl⟩, fun q => ⟨fun h => by simp at h, fun h => absurd h LpK.none⟩⟩
  case round =>
    clear hS5
    obtain ⟨k, x, hk, rfl, hW, hgr, hx⟩ := hrel
    by_cases hlt : k < (backL nx g n).length
    · have hj := List.getElem?_eq_getElem hlt
      generalize (backL nx g n)[k] = f at hj
      obtain ⟨b, t⟩ := f
      obtain ⟨hb, ht⟩ := hmem k b t hj
      obtain ⟨g5, rfl, hg5, f0, f1⟩ := hfx k (b, t) hj
      have hg5 : g5 ≠ S := fun e => by have := Z.out; omega
      have e0 := cellKept hgr f0 (by rw [addBlock]; intro e; exact hg5 (Option.some.inj e))
      have e1 := cellKept hgr f1 (by rw [addBlock]; intro e; exact hg5 (Option.some.inj e))
      have e0 : wr.cell? ⟨g5, k * 2, none⟩ = some (.int .i64 (b : Nat)) := by rw [← add_at]; exact e0
      have e1 : wr.cell? ⟨g5, k * 2 + 1, none⟩ = some (.int .i64 (t : Nat)) := by rw [← add_at]; exact e1
      have Qr := hQ5.kept hgr
      have hga : wr.grownBy (wr.alloc (.cells #[.int .i64 (b : Nat), .int .i64 (t : Nat)] 52)) (some S) := grownS ((Below.refl _ wr).alloc (Nat.le_refl _) _)
      have Wa := hW.kept (below_grown ((Below.refl _ wr).alloc (Nat.le_refl _) (.cells #[.int .i64 (b : Nat), .int .i64 (t : Nat)] 52))) (by simp)
      have Qa := Qr.kept hga
      have c1 := Qa.hd.cell
      have hlS := hW.lt
      have hba : (wr.alloc (.cells #[.int .i64 (b : Nat), .int .i64 (t : Nat)] 52)).heap[wr.heap.size]? = some (.cells #[.int .i64 (b : Nat), .int .i64 (t : Nat)] 52) := World.alloc_heap_new _ _
      clear f0 f1 hfx
      by_cases hth : (t : Int) = h
      · subst hth
        have hbox := fun (w6 : World) (hg : (wr.alloc (.cells #[.int .i64 (b : Nat), .int .i64 (t : Nat)] 52)).grownBy w6 (some S)) => (hg.block wr.heap.size (by simp) (fun e => by have := Option.some.inj e; omega)).trans hba
        have hc0 := fun (w6 : World) (hg : (wr.alloc (.cells #[.int .i64 (b : Nat), .int .i64 (t : Nat)] 52)).grownBy w6 (some S)) => (show w6.cell? ⟨wr.heap.size, 0, none⟩ = some (.int .i64 (b : Nat)) by unfold World.cell?; simp only [hbox w6 hg]; rfl)
        clear hbox hba
        have X : Hid (∀ q, Nat.testBit x q = true ↔ LpK nx n (fun y => decide ((y : Int) = (t : Int)) || !Nat.testBit xr y) t (backL nx g n) k q) := hx
        clear hx
        go_wp2_with (first
          | (go_at_call 35; refine (put_ok S 1 t x _ Wa (by omega)).mono ?_; clear c1 e0 e1; rintro e w6 ⟨⟨v6, rfl⟩, hW6, hg6⟩; have Q6 := Qa.kept hg6; obtain ⟨d0, d1⟩ := web_cells Q6.web; have c3 := hc0 w6 hg6; clear hc0)
          | (go_at_call 32; refine (lp_spread Q6 hn hn0 b hb).mono ?_; rintro e w7 ⟨Bi, y, rfl, hWi, hBi, hb7, hy⟩; clear d0 d1 c3)
          | fail)
        have hW7 := hW6.kept (below_grown hb7) (by simp)
        have hlt6 := hW6.lt
        have G7 : w5.grownBy w7 (some S) := (hgr.trans hga).trans (hg6.trans (grownS hb7))
        have Y : Hid (∀ q, Nat.testBit y q = true ↔ (b < n ∧ Eng.Way (bkw nx n) (fun y => (decide ((y : Int) = (t : Int)) || !Nat.testBit xr y) = true) b q)) := hy
        clear hy
        go_loopw [42] (fun v wr2 => (v = .int .i64 0 ∧ wr2 = w7) ∨ (v = .int .i64 1 ∧ Wd wr2 S ((x ||| 2 ^ t) ||| y) ∧ w7.grownBy wr2 (some S))) (fun v _ => 1 - (intOf v).toNat)
        case atStart => exact .inl ⟨rfl, rfl⟩
        case round =>
          rcases hrel with ⟨rfl, rfl⟩ | ⟨rfl, hW8, hg8⟩
          · have c0 := hW7.cell
            have c1 := hWi.cell
            have f0 := hW7.soft
            have hbo := bitsOr hW7.2 hWi.2
            go_wp2_with fail
            go_region
            all_goals
              have hW2 := hW7.set (Nat.or_lt_two_pow hW7.2 hWi.2)
              have hG2 := hW7.grew (.int .u64 (((x ||| 2 ^ t) ||| y : Nat) : Int))
              clear hbo
              go_wp2
              go_roundw
              case rel => exact .inr ⟨rfl, hW2, ⟨hG2.os, hG2.tape, hG2.output, hG2.size, hG2.block⟩⟩
              case measure => simp [intOf]
          · go_wp2
            go_roundw
            case rel =>
              refine ⟨k + 1, _, hlt, by simp, hW8, G7.trans hg8, fun q => ?_⟩
              rw [LpK.step hj rfl]
              have e : Nat.testBit ((x ||| 2 ^ t) ||| y) q = true ↔ ((Nat.testBit x q = true ∨ q = t) ∨ Nat.testBit y q = true) := by
                simp only [Nat.testBit_or, Nat.testBit_two_pow, Bool.or_eq_true, decide_eq_true_eq]
                exact or_congr (or_congr Iff.rfl ⟨Eq.symm, Eq.symm⟩) Iff.rfl
              exact e.trans (or_congr (or_congr (X.out q) Iff.rfl) (Y.out q))
            case measure =>
              show (backL nx g n).length - (intOf (Value.int .i64 ((k + 1 : Nat) : Int))).toNat < (backL nx g n).length - (intOf (Value.int .i64 (k : Nat))).toNat
              simp only [intOf, Int.toNat_natCast]
              omega
      · have hne : ((t : Int) == h) = false := by simp [hth]
        go_wp2_with fail
        go_roundw
        case rel => exact ⟨k + 1, x, hlt, by simp, Wa, hgr.trans hga, fun q => (hx q).trans (LpK.skip hj hth).symm⟩
        case measure =>
          show (backL nx g n).length - (intOf (Value.int .i64 ((k + 1 : Nat) : Int))).toNat < (backL nx g n).length - (intOf (Value.int .i64 (k : Nat))).toNat
          simp only [intOf, Int.toNat_natCast]
          omega
    · have e : k = (backL nx g n).length := by omega
      subst e
      have hl := list_ok S 1 n x hn wr hW
      go_wp2_with (first
        | (go_at_call 37; refine hl.mono ?_; clear hl; rintro e w6 ⟨v6, rfl, ho6, hb6⟩)
        | fail)
      go_ret
      refine ⟨v6, g, xr, x, rfl, own_weak ho6 ?_, ?_, G.out.1, G.out.2, hx⟩
      · have := R.out.1.size; have := R.out.2.1.size; have := hgr.size; omega
      · have := R.out.1.size; have := R.out.2.1.size; have := hgr.size; have := R.out.2.2
        exact (((R.out.1.trans (R.out.2.1.mono (by omega))).grown hgr (by omega) (fun k hk => by cases hk; omega))).trans (hb6.mono (by omega))
theorem dz : (0 + 63) / 64 = 0 := rfl
set_option maxRecDepth 100000 in
set_option maxHeartbeats 1000000 in
theorem list_zero (v : Value) (w : World) : Calls Tryz.prog 37 #[v, .int .i64 0] w fun e w' => e = .returned (.slice none 0 0) ∧ w' = w := by
  go_enter Tryz.func37, Tryz.ntmps37
  go_wp2
  go_loopw [5, 8] (fun v5 v8 wr => v5 = .slice none 0 0 ∧ v8 = .int .i64 0 ∧ wr = w) (fun _ _ _ => 0)
  case atStart => exact ⟨rfl, rfl, rfl⟩
  case round =>
    obtain ⟨rfl, rfl, rfl⟩ := hrel
    go_wp2
    go_ret
    exact ⟨rfl, rfl⟩
set_option maxRecDepth 100000 in
set_option maxHeartbeats 1000000 in
theorem Loop_zero {w : World} {oa : Option Addr} {c : Nat} {nx : Nat → List Nat} (h : NxOk w oa 0 c nx) (hd : Int) :
    Calls Tryz.prog 17 #[.slice oa 0 c, .int .i64 hd] w fun e w' => e = .returned (.slice none 0 0) ∧ Below w.heap.size w w' := by
  have hw := weave_nx (h.alloc (.cells #[.int .i64 hd] 3))
  have hB0 : Below w.heap.size w (w.alloc (.cells #[.int .i64 hd] 3)) := (Below.refl _ w).alloc (Nat.le_refl _) _
  go_enter Tryz.func17, Tryz.ntmps17
  go_wp2_with (first
    | (go_at_call 10; refine hw.mono ?_; clear hw; rintro e w2 ⟨BN, BB, rfl, hN, hB, hbl⟩; have b2 := hB0.trans (hbl.mono hB0.size); have hn2 := World.alloc_heap_new w2 (.cells #[.slice (some ⟨BN, 0, none⟩) 0 0, .slice (some ⟨BB, 0, none⟩) 0 0] 41); obtain ⟨d0, d1⟩ := web_cells hn2; have a2 : Below w2.heap.size w2 (w2.alloc (.cells #[.slice (some ⟨BN, 0, none⟩) 0 0, .slice (some ⟨BB, 0, none⟩) 0 0] 41)) := (Below.refl _ w2).alloc (Nat.le_refl _) _; have z2 : (w2.alloc (.cells #[.slice (some ⟨BN, 0, none⟩) 0 0, .slice (some ⟨BB, 0, none⟩) 0 0] 41)).heap.size = w2.heap.size + 1 := by simp)
    | (go_at_call 32; refine (spread_zero _ _ _).mono ?_; clear d0 d1; rintro e w3 ⟨Br, rfl, hB3⟩)
    | (go_at_call 34; refine (none_ok 0 _ (by omega)).mono ?_; rintro e w4 ⟨rfl, hw4⟩; rw [dz] at hw4 ⊢; have b34 : Below w3.heap.size w3 w4 := (by rw [hw4]; exact ((Below.refl _ w3).alloc (Nat.le_refl _) _).alloc (by simp) _); obtain ⟨d0, d1⟩ := web_cells (((hB3.trans (b34.mono hB3.size)).block w2.heap.size (by omega)).trans hn2); clear hw4)
    | (go_at_call 31; refine (backs_zero _).mono ?_; clear d0 d1; rintro e w5 ⟨rfl, hb5⟩)
    | fail)
  have hB : Below w.heap.size w w5 := by
    have := b2.size
    have := a2.size
    have := hB3.size
    have := b34.size
    exact (((b2.trans (a2.mono (by omega))).trans (hB3.mono (by omega))).trans (b34.mono (by omega))).trans (hb5.mono (by omega))
  clear hB0 hb5 b34 hB3 a2 b2 hN hbl z2 hn2
  go_loopw [23] (fun v wr => v = .int .i64 0 ∧ Below w.heap.size w wr) (fun _ _ => 0)
  case atStart => exact ⟨rfl, hB⟩
  case round =>
    obtain ⟨rfl, hB'⟩ := hrel
    go_wp2_with (first
      | (go_at_call 37; refine (list_zero _ _).mono ?_; rintro e w6 ⟨rfl, rfl⟩)
      | fail)
    go_ret
    exact ⟨rfl, hB'⟩
theorem rd_p0 (a b : Int) : rdZ (qQq a (qQq b 0)) 0 = a := qQa _ _
theorem rd_p1 (a b : Int) : rdZ (qQq a (qQq b 0)) 1 = b := by
  rw [qQr _ _ (by omega)]
  exact qQa _ _
theorem lz_rd (f : Nat → Int) (n : Nat) {i : Nat} (h : i < n) : rdZ (LZ ((List.range n).map f)) i = f i := by
  unfold rdZ
  rw [ZL_LZ, Int.toNat_natCast, List.getD_eq_getElem?_getD, List.getElem?_map, List.getElem?_range h]
  rfl
theorem nx_map {q : Int} {n p : Nat} : nxL q n p = (nxf q n p).map fun x : Nat => (x : Int) := by
  unfold nxf
  rw [List.map_map]
  refine (List.map_id _).symm.trans (List.map_congr_left fun x hx => ?_)
  have := nx_pos (Int.natCast_nonneg p) hx
  simp only [Function.comp, id]
  omega
theorem nx_cells {q : Int} {n p : Nat} (hn : n ≤ 1000000) : (nxN q n p).toNat = (nxf q n p).length ∧ rowV [.int .i64] (nxZ q n p) (nxN q n p).toNat = rowI (nxf q n p) := by
  have e : (nxN q n p).toNat = (nxL q n p).length := by unfold nxN; simp
  refine ⟨by rw [e]; unfold nxf; rw [List.length_map], ?_⟩
  rw [e]
  unfold nxZ
  rw [rowV_list _ fun x hx => by have := nx_pos (Int.natCast_nonneg p) hx; have := nx_mem hx; omega, nx_map]
  simp [rowI]
theorem nxok {cx : Cx} (hP : cx.P = Tryz.prog) (hN : NextC cx 13 3) {oa : Option Addr} {n c : Nat} {q : Int} {w : World} (h : Grw cx oa n c q w) : NxOk w oa n c (nxf q n) := by
  refine ⟨h.le, fun p x hx => by have := nxf_lt hx; omega, fun p => nxf_len _ _ _, fun p => nxf_nodup _ _ _, fun p hp W hW => ?_⟩
  have hn := h.le
  obtain ⟨e1, e2⟩ := nx_cells (q := q) (n := n) (p := p) (by omega)
  rw [← hP]
  refine (hN.all oa n c p q W (h.tab.below hW) (h.row.below hW) (by omega) hp).mono ?_
  rintro e w' ⟨v', rfl, ho, hb⟩
  rw [e2, e1] at ho
  refine ⟨v', rfl, ?_, hb⟩
  rcases ho with ⟨h1, h2⟩ | ⟨g, cap, cur, mk, h1, h2, h3, h4⟩
  · exact .inl ⟨h1, List.length_eq_zero_iff.1 h2⟩
  · exact .inr ⟨g, cap, cur, mk, h1, h2, h3, fun j x hj => h4 j _ (by unfold rowI; rw [List.getElem?_map, hj]; rfl)⟩
theorem own_of_row {W : World} {base B t n : Nat} {f : Nat → Value} (h : W.rowIs B t n f) (hb : base ≤ B) (hn : n ≤ 1000) : W.ownsRow base t 1 (.slice (some ⟨B, 0, none⟩) n n) n ((List.range n).map f) := by
  obtain ⟨C, h1, h2, h3⟩ := h
  refine ⟨by simp, .inr ⟨B, n, C, rfl, hb, h1, Nat.le_refl _, by simp only [maxLen]; omega, by simp [h2], ?_⟩⟩
  apply List.ext_getElem?
  intro i
  by_cases hi : i < n
  · rw [List.getElem?_take, if_pos (by omega), List.getElem?_map, List.getElem?_range hi]
    simpa using h3 i hi
  · rw [List.getElem?_eq_none (by rw [List.length_take]; omega), List.getElem?_eq_none (by simp; omega)]
open Classical in
theorem reach_row {q : Int} {n : Nat} (hn : n ≤ 64) : rowV [.bool] (gfmZ q n (qQq 0 (qQq (-1) 0))) n = (List.range n).map fun p => Value.bool (decide (Eng.Way (nxf q n) (fun _ => False) 0 p)) := by
  unfold rowV
  simp only [qQw, ckV]
  rw [tabL_one (fun i => Value.bool (rdZ (gfmZ q n (qQq 0 (qQq (-1) 0))) i != 0))]
  refine List.map_congr_left fun p hp => ?_
  have hp := List.mem_range.1 hp
  rw [Nat.zero_add]
  unfold gfmZ
  rw [rd_p0, rd_p1, lz_rd _ _ (by omega)]
  have eb : (fun x : Nat => (x : Int) = -1) = fun _ => False := by funext x; simp
  rw [eb]
  by_cases h : Eng.Way (nxf q n) (fun _ => False) 0 p
  · rw [if_pos ⟨by omega, by omega, by simpa using h⟩]; simp [h]
  · rw [if_neg fun g => h (by simpa using g.2.2)]; simp [h]
theorem gahead {cx : Cx} (hP : cx.P = Tryz.prog) (hN : NextC cx 13 3) : GAheadC cx 14 := by
  refine ⟨fun oa n c q w h a b ha hb => ?_⟩
  have hx := nxok hP hN h
  rw [hP]
  refine (Ahead_ok hx a b ha hb).mono ?_
  rintro e w' ⟨⟨r, rfl, hr⟩, hB⟩
  refine ⟨?_, hB⟩
  have hA : ahdP q n a b ↔ r = true := by
    rw [hr]; unfold ahdP
    simp only [Int.toNat_natCast]
  have : (ahdZ q n (qQq a (qQq b 0)) != 0) = r := by
    unfold ahdZ
    rw [rd_p0, rd_p1]
    by_cases g : ahdP q n a b
    · rw [if_pos g, hA.1 g]; rfl
    · rw [if_neg g]
      cases r with
      | true => exact absurd (hA.2 rfl) g
      | false => rfl
  rw [this]
theorem gcyc {cx : Cx} (hP : cx.P = Tryz.prog) (hN : NextC cx 13 3) : GCycC cx 5 := by
  refine ⟨fun oa n c q w h => ?_⟩
  have hx := nxok hP hN h
  rw [hP]
  rcases Nat.eq_zero_or_pos n with rfl | h0
  · refine (Cyclic_zero hx).mono ?_
    rintro e w' ⟨rfl, hB⟩
    refine ⟨?_, hB⟩
    have : ¬Cyc (nxf q (0 : Nat)) := fun ⟨p, _, t, ht, _⟩ => by
      rw [nxf_out (by omega)] at ht
      cases ht
    unfold cycZ
    rw [if_neg this]
    rfl
  · refine (Cyclic_ok hx h0).mono ?_
    rintro e w' ⟨⟨r, rfl, hr⟩, hB⟩
    refine ⟨?_, hB⟩
    have : (cycZ q n != 0) = r := by
      unfold cycZ
      by_cases g : Cyc (nxf q n)
      · rw [if_pos g, hr.2 g]; rfl
      · rw [if_neg g]
        cases r with
        | true => exact absurd (hr.1 rfl) g
        | false => rfl
    rw [this]
theorem tabL_flat (f : Nat → List Value) : ∀ (n k : Nat), tabL f k n = (List.range n).flatMap fun i => f (k + i)
  | 0, k => rfl
  | n + 1, k => by
    simp only [tabL, tabL_flat f n (k + 1), List.range_succ_eq_map, List.flatMap_cons, Nat.add_zero, List.flatMap_map]
    congr 2
    funext i
    congr 1; omega
theorem range_getD (M : List Int) : (List.range M.length).map (fun i : Nat => rdZ (LZ M) i) = M := by
  apply List.ext_getElem?
  intro i
  by_cases hi : i < M.length
  · rw [List.getElem?_map, List.getElem?_range hi]
    unfold rdZ
    rw [ZL_LZ]
    simp [hi]
  · rw [List.getElem?_eq_none (by simp; omega), List.getElem?_eq_none (by omega)]
theorem rowV_code (cks : List CK) (M : List Int) : rowV cks (LZ M) M.length = M.flatMap fun x => qQw cks x := by
  unfold rowV
  rw [tabL_flat]
  have e : (M.flatMap fun x => qQw cks x) = ((List.range M.length).map fun i : Nat => rdZ (LZ M) i).flatMap fun x => qQw cks x := by rw [range_getD]
  rw [e, List.flatMap_map]
  simp only [Nat.zero_add]
theorem flat_congr {α β : Type} {L : List α} {f g : α → List β} (h : ∀ x ∈ L, f x = g x) : L.flatMap f = L.flatMap g := by
  rw [List.flatMap_def, List.flatMap_def, List.map_congr_left h]
theorem w64n {n x : Nat} (hn : n ≤ 64) (h : x < n) : IntKind.wrap .i64 (x : Int) = (x : Int) := Eng.w64 (by omega) (by omega)
theorem fix_row {n : Nat} (hn : n ≤ 64) (L : List (Nat × Nat)) (h : ∀ x ∈ L, x.1 < n ∧ x.2 < n) : rowV [.int .i64, .int .i64] (LZ (L.map fun x => qQq (x.1 : Int) (qQq (x.2 : Int) 0))) L.length = fixV L := by
  have := rowV_code [.int .i64, .int .i64] (L.map fun x => qQq (x.1 : Int) (qQq (x.2 : Int) 0))
  rw [List.length_map] at this
  rw [this, List.flatMap_map]
  unfold fixV
  have : ∀ x ∈ L, qQw [.int .i64, .int .i64] (qQq (x.1 : Int) (qQq (x.2 : Int) 0)) = [.int .i64 (x.1 : Nat), .int .i64 (x.2 : Nat)] := fun x hx => by
    have e : qQw [.int .i64, .int .i64] (qQq (x.1 : Int) (qQq (x.2 : Int) 0)) = [.int .i64 (IntKind.wrap .i64 (rdZ (qQq (x.1 : Int) (qQq (x.2 : Int) 0)) 0)), .int .i64 (IntKind.wrap .i64 (rdZ (qQq (x.1 : Int) (qQq (x.2 : Int) 0)) 1))] := rfl
    rw [e, rd_p0, rd_p1, w64n hn (h x hx).1, w64n hn (h x hx).2]
  exact flat_congr this
open Classical in
/-- the backs, in numbers -/
theorem bks_eq {q : Int} {n : Nat} (hn : n ≤ 64) {g : Nat → Nat → Bool} (hg : ∀ p, p < n → ∀ a, g p a = true ↔ (Eng.Way (nxf q n) (fun _ => False) 0 p ∧ Dmn (nxf q n) n a p)) :
    bksL q n (min ((n : Int)).toNat 1000) = (backL (nxf q n) g n).map fun x => ((x.1 : Int), (x.2 : Int)) := by
  have e : min ((n : Int)).toNat 1000 = n := by omega
  rw [e]
  unfold bksL backL
  rw [List.map_flatMap]
  refine flat_congr fun p hp => ?_
  have hp := List.mem_range.1 hp
  rw [List.map_map]
  have e2 : bkL q n p = ((nxf q n p).filter fun t => g p t).map fun x : Nat => (x : Int) := by
    unfold bkL
    rw [nx_map, List.filter_map]
    congr 1
    refine List.filter_congr fun t ht => ?_
    have := nxf_lt ht
    simp only [Function.comp]
    rw [Bool.eq_iff_iff, decide_eq_true_eq, hg p hp t]
    unfold ahdP
    simp only [Int.toNat_natCast]
    exact ⟨fun h => h.2.2.2.2, fun h => ⟨by omega, by omega, by omega, by omega, h⟩⟩
  rw [e2, List.map_map]
  rfl
theorem gbacks {cx : Cx} (hP : cx.P = Tryz.prog) (hN : NextC cx 13 3) : GBacksC cx 16 52 := by
  refine ⟨fun oa n c q w h => ?_⟩
  have hx := nxok hP hN h
  have hn := h.le
  rw [hP]
  rcases Nat.eq_zero_or_pos n with rfl | h0
  · refine (Backs_zero hx).mono ?_
    rintro e w' ⟨rfl, hB⟩
    have e0 : (bkN q (0 : Nat)).toNat = 0 := by simp [bkN, bksL]
    refine ⟨_, rfl, ?_, hB⟩
    rw [e0]
    exact World.ownsRow_nil _ _ _ _
  · refine (Backs_ok hx h0).mono ?_
    rintro e w' ⟨g, v, rfl, ho, hB, hg⟩
    have hb := bks_eq hn hg
    have e1 : (bkN q n).toNat = (backL (nxf q n) g n).length := by unfold bkN; rw [hb]; simp
    have e2 : bkZ q n = LZ ((backL (nxf q n) g n).map fun x => qQq (x.1 : Int) (qQq (x.2 : Int) 0)) := by unfold bkZ; rw [hb, List.map_map]; rfl
    refine ⟨v, rfl, ?_, hB⟩
    rw [e1, e2, fix_row hn _ fun x hx' => ?_]
    · exact ho
    · have := backL_mem.1 hx'
      exact ⟨this.1, hx.lt _ _ this.2.1⟩
theorem dom_reached {nx : Nat → List Nat} {n a b : Nat} (h : Eng.Way nx (fun _ => False) 0 b) (hd : Dmn nx n a b) : Eng.Way nx (fun _ => False) 0 a := by
  rcases hd with rfl | ⟨_, hd⟩
  · exact h
  · refine Classical.byContradiction fun hn => hd ?_
    induction h with
    | here _ => exact .here fun e => hn (by rw [← e]; exact .here id)
    | @on b c h1 h2 _ ih =>
      by_cases e : c = a
      · exact absurd (by rw [← e]; exact h1.on h2 id) hn
      · by_cases hb : Eng.Way nx (· = a) 0 b
        · exact hb.on h2 e
        · exact absurd (ih hb) hb
theorem way_kept {nx : Nat → List Nat} {h : Int} {xr : Nat} (hr : ∀ q, Nat.testBit xr q = true ↔ Eng.Way nx (fun _ => False) 0 q) {a b : Nat} (h0 : Eng.Way nx (fun _ => False) 0 a) (hw : Eng.Way nx (fun x : Nat => (x : Int) = h) a b) :
    Eng.Way nx (fun y => (decide ((y : Int) = h) || !Nat.testBit xr y) = true) a b := by
  have ok : ∀ c : Nat, ¬(c : Int) = h → Eng.Way nx (fun _ => False) 0 c → ¬(decide ((c : Int) = h) || !Nat.testBit xr c) = true := fun c h1 h2 => by
    rw [(hr c).2 h2]; simp [h1]
  have hF : ∀ c, Eng.Way nx (fun x : Nat => (x : Int) = h) a c → Eng.Way nx (fun _ => False) 0 c := fun c hc => h0.trans (hc.mono fun _ h => h.elim)
  induction hw with
  | here hb => exact .here (ok a hb h0)
  | on h1 h2 h3 ih => exact ih.on h2 (ok _ h3 ((hF _ h1).on h2 id))
theorem lp_iff {q : Int} {n : Nat} (hn : n ≤ 64) {g : Nat → Nat → Bool} {xr : Nat} {h : Int} (hg : ∀ p, p < n → ∀ a, g p a = true ↔ (Eng.Way (nxf q n) (fun _ => False) 0 p ∧ Dmn (nxf q n) n a p)) (hr : ∀ p, Nat.testBit xr p = true ↔ Eng.Way (nxf q n) (fun _ => False) 0 p) (p : Nat) :
    LpK (nxf q n) n (fun y => decide ((y : Int) = h) || !Nat.testBit xr y) h (backL (nxf q n) g n) (backL (nxf q n) g n).length p ↔ lpP q n h p := by
  have hb := bks_eq hn hg
  have hout : ∀ p, n ≤ p → nxf q n p = [] := fun p hp => nxf_out (by omega)
  unfold lpP
  rw [hb]
  constructor
  · rintro ⟨i, b, t, hi, hL, rfl, hq⟩
    have hm := List.mem_of_getElem? hL
    obtain ⟨hbn, htb, hgt⟩ := backL_mem.1 hm
    obtain ⟨hw, hd⟩ := (hg b hbn t).1 hgt
    refine ⟨b, List.mem_map.2 ⟨(b, t), hm, rfl⟩, ?_⟩
    rcases hq with rfl | ⟨_, hq⟩
    · exact ⟨dom_reached hw hd, .inl rfl⟩
    · have hq := (way_back hout).1 hq
      have hnb := hq.nbar.1
      refine ⟨(hr p).1 ?_, .inr (hq.mono fun x hx => by simp [hx])⟩
      cases hx : Nat.testBit xr p with
      | true => rfl
      | false => simp [hx] at hnb
  · rintro ⟨b, hm, hp, hq⟩
    obtain ⟨⟨b', t⟩, hm', e⟩ := List.mem_map.1 hm
    simp only [Prod.mk.injEq] at e
    obtain ⟨e1, rfl⟩ := e
    have e1 : b' = b := by omega
    subst e1
    obtain ⟨i, hi, hL⟩ := List.mem_iff_getElem.1 hm'
    refine ⟨i, b', t, hi, by rw [← hL]; exact List.getElem?_eq_getElem hi, rfl, ?_⟩
    rcases hq with hq | hq
    · exact .inl (by omega)
    · exact .inr ⟨(backL_mem.1 hm').1, (way_back hout).2 (way_kept hr hp hq)⟩
open Classical in
theorem gloop {cx : Cx} (hP : cx.P = Tryz.prog) (hN : NextC cx 13 3) : GLoopC cx 17 3 := by
  refine ⟨fun oa n c q w h hd hh => ?_⟩
  have hx := nxok hP hN h
  have hn := h.le
  rw [hP]
  rcases Nat.eq_zero_or_pos n with rfl | h0
  · refine (Loop_zero hx hd).mono ?_
    rintro e w' ⟨rfl, hB⟩
    have e0 : (lpN q (0 : Nat) hd).toNat = 0 := by simp [lpN, lpL]
    refine ⟨_, rfl, ?_, hB⟩
    rw [e0]
    exact World.ownsRow_nil _ _ _ _
  · refine (Loop_ok hx h0 hd hh).mono ?_
    rintro e w' ⟨v, g, xr, x, rfl, ho, hB, hg, hr, hxq⟩
    have e : min ((n : Int)).toNat 1000 = n := by omega
    have eL : lpL q n hd (min ((n : Int)).toNat 1000) = ((List.range n).filter fun p => Nat.testBit x p).map fun p : Nat => (p : Int) := by
      rw [e]
      unfold lpL
      congr 1
      refine List.filter_congr fun p _ => ?_
      rw [Bool.eq_iff_iff, decide_eq_true_eq, hxq p]
      exact (lp_iff hn hg hr p).symm
    have e1 : (lpN q n hd).toNat = ((List.range n).filter fun p => Nat.testBit x p).length := by unfold lpN; rw [eL]; simp
    refine ⟨v, rfl, ?_, hB⟩
    have e2 : rowV [.int .i64] (lpZ q n hd) ((List.range n).filter fun p => Nat.testBit x p).length = rowI ((List.range n).filter fun p => Nat.testBit x p) := by
      unfold lpZ
      rw [eL]
      have := rowV_list (((List.range n).filter fun p => Nat.testBit x p).map fun p : Nat => (p : Int)) fun y hy => by
        obtain ⟨p, hp, rfl⟩ := List.mem_map.1 hy
        have := List.mem_range.1 (List.mem_filter.1 hp).1
        omega
      rw [List.length_map] at this
      rw [this]
      simp [rowI]
    rw [e1, e2]
    exact ho

end
noncomputable def libGAhead (Γ : List (Int × Int)) (ins : List InD) (n : Nat) : Sm1 := gAheadT (cxG n Γ ins) 165
theorem libGAhead_ok (hN : ∀ (n : Nat) (Γ : List (Int × Int)) (ins : List InD), NextC (cxG n Γ ins) 13 3) (Γ : List (Int × Int)) (ins : List InD) (n : Nat) : Sm1Ok (cxG n Γ ins) 14 (libGAhead Γ ins n) := fun ρ β s s' w args r v hρ hs h hr => gAheadT_ok (cx := cxG n Γ ins) (tabsG n Γ ins) hρ hs (gahead rfl (hN n Γ ins)) (fun _ _ _ => rfl) h hr
noncomputable def libGBacks (Γ : List (Int × Int)) (ins : List InD) (n : Nat) : Sm1 := gBacksT (cxG n Γ ins) 166 167 52
theorem libGBacks_ok (hN : ∀ (n : Nat) (Γ : List (Int × Int)) (ins : List InD), NextC (cxG n Γ ins) 13 3) (Γ : List (Int × Int)) (ins : List InD) (n : Nat) : Sm1Ok (cxG n Γ ins) 16 (libGBacks Γ ins n) := fun ρ β s s' w args r v hρ hs h hr => gBacksT_ok (cx := cxG n Γ ins) (tabsG n Γ ins) hρ hs (gbacks rfl (hN n Γ ins)) (fun _ _ _ => rfl) (fun _ _ _ => rfl) h hr
noncomputable def libGLoop (Γ : List (Int × Int)) (ins : List InD) (n : Nat) : Sm1 := gLoopT (cxG n Γ ins) 168 169 3
theorem libGLoop_ok (hN : ∀ (n : Nat) (Γ : List (Int × Int)) (ins : List InD), NextC (cxG n Γ ins) 13 3) (Γ : List (Int × Int)) (ins : List InD) (n : Nat) : Sm1Ok (cxG n Γ ins) 17 (libGLoop Γ ins n) := fun ρ β s s' w args r v hρ hs h hr => gLoopT_ok (cx := cxG n Γ ins) (tabsG n Γ ins) hρ hs (gloop rfl (hN n Γ ins)) (fun _ _ _ => rfl) (fun _ _ _ => rfl) h hr
noncomputable def libGCyc (Γ : List (Int × Int)) (ins : List InD) (n : Nat) : Sm1 := gCycT (cxG n Γ ins) 170
theorem libGCyc_ok (hN : ∀ (n : Nat) (Γ : List (Int × Int)) (ins : List InD), NextC (cxG n Γ ins) 13 3) (Γ : List (Int × Int)) (ins : List InD) (n : Nat) : Sm1Ok (cxG n Γ ins) 5 (libGCyc Γ ins n) := fun ρ β s s' w args r v hρ hs h hr => gCycT_ok (cx := cxG n Γ ins) (tabsG n Γ ins) hρ hs (gcyc rfl (hN n Γ ins)) (fun _ _ _ => rfl) h hr
end Go.Proofs.YthfckifhnaoopabGreatDoor
