/-
  Functions of Go's library at this program, by their contracts, as the engine takes them. Printed by program.
-/
import Derived.Test.YtppkkgicidagmabGreatDoorGab
import Derived.Test.YtppkkgicidagmabGreatDoorShelf
import Derived.Lib.Walk
import Derived.Lib.Small
import Derived.Lib.Tables
import Derived.RangeFuncBox
import Derived.RangeFuncNested
import Derived.RangeFuncLeaves
import Derived.Shelf.Abstract
import Derived.Shelf.RegionOpen
import Derived.WalkKit
import Derived.OwnWalkIn
import Derived.TacticsInMore
import Derived.LoopNIn
import Derived.LoopIn
import Derived.Maps.OwnIn
import Derived.Maps.AppendAt
import Derived.Maps.RangeWalk
import Derived.Deep.OwnRows
import Derived.Laws.EntriesVeiled
import Derived.Deep.RegionHeld3
import Derived.Deep.RegionLaw
import Derived.Deep.AppendLies
import Derived.Test.YtppkkgicidagmabGreatDoorGp3
import Derived.Test.YtppkkgicidagmabGreatDoorGjb
import Derived.Maps.OwnOps
import Derived.Maps.OwnSet
import Derived.Deep.RegionWith
import Derived.Handy
import Derived.Laws.ResultCell
import Derived.Test.YtppkkgicidagmabGreatDoorGp4
set_option linter.unusedVariables false
set_option linter.unusedSimpArgs false
namespace Go.Proofs.YtppkkgicidagmabGreatDoor
open Go Go.Eng Go.RowKit
theorem compC_ok : CompC Tryz.prog 71 := ⟨Tryz.slices_Compact_int, Tryz.slices_Compact_int_empty⟩
noncomputable def libComp (Γ : List (Int × Int)) (ins : List InD) (n : Nat) : Sm1 := compT (cxG n Γ ins) 43 44
theorem libComp_ok (Γ : List (Int × Int)) (ins : List InD) (n : Nat) : Sm1Ok (cxG n Γ ins) 71 (libComp Γ ins n) := fun ρ β s s' w args r v hρ hs h hr => compT_ok (cx := cxG n Γ ins) compC_ok (fun _ _ _ => rfl) (fun _ _ _ => rfl) ρ β s s' w args r v hρ hs h hr
noncomputable def libCompK (Γ : List (Int × Int)) (ins : List InD) (n : Nat) : Sm1 := compKT
theorem libCompK_ok (Γ : List (Int × Int)) (ins : List InD) (n : Nat) : Sm1Ok (cxG n Γ ins) 71 (libCompK Γ ins n) := fun ρ β s s' w args r v hρ hs h hr => compKT_ok (cx := cxG n Γ ins) compC_ok ρ β s s' w args r v hρ hs h hr
theorem tab8 (i : Nat) (h : i < Lib.len8tab.size) : (((Lib.len8tab[i]'h).toNat : Nat) : Int) = (Lib.bitLen i : Int) ∧ (Lib.bitLen i : Int) ≤ 8 := by
  have hs := Lib.len8tab_size
  have h1 := Lib.len8_of (i : Int) (by omega) (by omega)
  have h2 := Lib.bitLen_le8' (i : Int) (by omega) (by omega)
  rw [Int.toNat_natCast] at h1 h2
  refine ⟨?_, by omega⟩
  rw [← h1]
  simp [Lib.len8, h]

theorem l24 (x : Int) (h0 : 0 ≤ x) (h1 : x ≤ 4294967295) (h2 : 16777216 ≤ x) (h : (x / 65536 / 256).toNat < Lib.len8tab.size) : wrap64 (24 + wrap64 (((Lib.len8tab[(x / 65536 / 256).toNat]'h).toNat : Nat) : Int)) = (Lib.bitLen x.toNat : Int) := by
  obtain ⟨t1, t2⟩ := tab8 (x / 65536 / 256).toNat h
  rw [t1]
  have e : (x / 65536 / 256).toNat = x.toNat / 16777216 := by omega
  have s := Lib.bitLen_shift24 x.toNat (by omega) (by omega)
  rw [e] at t2 ⊢
  rw [s]
  generalize Lib.bitLen (x.toNat / 16777216) = m at t2
  clear e s t1 h h0 h1 h2
  simp only [wrap64]
  omega

theorem l16 (x : Int) (h0 : 0 ≤ x) (h1 : x ≤ 4294967295) (h2 : 65536 ≤ x) (h : (x / 65536).toNat < Lib.len8tab.size) : wrap64 (16 + wrap64 (((Lib.len8tab[(x / 65536).toNat]'h).toNat : Nat) : Int)) = (Lib.bitLen x.toNat : Int) := by
  obtain ⟨t1, t2⟩ := tab8 (x / 65536).toNat h
  rw [t1]
  have e : (x / 65536).toNat = x.toNat / 65536 := by omega
  have s := Lib.bitLen_shift16 x.toNat (by omega) (by omega)
  rw [e] at t2 ⊢
  rw [s]
  generalize Lib.bitLen (x.toNat / 65536) = m at t2
  clear e s t1 h h0 h1 h2
  simp only [wrap64]
  omega

theorem l8 (x : Int) (h0 : 0 ≤ x) (h1 : x ≤ 4294967295) (h2 : 256 ≤ x) (h : (x / 256).toNat < Lib.len8tab.size) : wrap64 (8 + wrap64 (((Lib.len8tab[(x / 256).toNat]'h).toNat : Nat) : Int)) = (Lib.bitLen x.toNat : Int) := by
  obtain ⟨t1, t2⟩ := tab8 (x / 256).toNat h
  rw [t1]
  have e : (x / 256).toNat = x.toNat / 256 := by omega
  have s := Lib.bitLen_shift8 x.toNat (by omega) (by omega)
  rw [e] at t2 ⊢
  rw [s]
  generalize Lib.bitLen (x.toNat / 256) = m at t2
  clear e s t1 h h0 h1 h2
  simp only [wrap64]
  omega

theorem l0 (x : Int) (h0 : 0 ≤ x) (h1 : x ≤ 4294967295) (h2 : 0 ≤ x) (h : x.toNat < Lib.len8tab.size) : wrap64 (wrap64 (((Lib.len8tab[x.toNat]'h).toNat : Nat) : Int)) = (Lib.bitLen x.toNat : Int) := by
  obtain ⟨t1, t2⟩ := tab8 x.toNat h
  rw [t1]
  generalize Lib.bitLen x.toNat = m at t2
  clear t1 h h0 h1 h2
  simp only [wrap64]
  omega

set_option maxHeartbeats 4000000 in
set_option maxRecDepth 100000 in
theorem len32 (x : Int) (w : World) (h0 : 0 ≤ x) (h1 : x ≤ 4294967295) :
    Calls Tryz.prog 116 #[.int .u32 x] w fun e w' => e = .returned (.int .i64 (Lib.bitLen x.toNat)) ∧ w' = w := by
  have hs := Lib.len8tab_size
  go_enter Tryz.func116, Tryz.ntmps116
  go_wp2
  all_goals first
    | (exfalso; omega)
    | skip
  all_goals (go_ret; refine ⟨congrArg Ending.returned (congrArg (Value.int IntKind.i64) ?_), rfl⟩)
  all_goals first
    | exact l24 x h0 h1 (by omega) _
    | exact l16 x h0 h1 (by omega) _
    | exact l8 x h0 h1 (by omega) _
    | exact l0 x h0 h1 (by omega) _

theorem k56 (x : Int) (h0 : 0 ≤ x) (h1 : x ≤ 18446744073709551615) (h2 : 72057594037927936 ≤ x) (h : (x / 4294967296 / 65536 / 256).toNat < Lib.len8tab.size) (hb : x / 4294967296 / 65536 / 256 ≤ 255) : wrap64 (56 + wrap64 (((Lib.len8tab[(x / 4294967296 / 65536 / 256).toNat]'h).toNat : Nat) : Int)) = (Lib.bitLen x.toNat : Int) := by
  obtain ⟨t1, t2⟩ := tab8 (x / 4294967296 / 65536 / 256).toNat h
  rw [t1]
  have e : (x / 4294967296 / 65536 / 256).toNat = x.toNat / 72057594037927936 := by omega
  have s := Lib.bitLen_shift 56 x.toNat (by omega) (by omega)
  rw [show (2 : Nat) ^ 56 = 72057594037927936 from rfl] at s
  rw [e] at t2 ⊢
  rw [s]
  generalize Lib.bitLen (x.toNat / 72057594037927936) = m at t2
  clear e s t1 h h0 h1 h2
  simp only [wrap64]
  omega

theorem k48 (x : Int) (h0 : 0 ≤ x) (h1 : x ≤ 18446744073709551615) (h2 : 281474976710656 ≤ x) (h : (x / 4294967296 / 65536).toNat < Lib.len8tab.size) (hb : x / 4294967296 / 65536 ≤ 255) : wrap64 (48 + wrap64 (((Lib.len8tab[(x / 4294967296 / 65536).toNat]'h).toNat : Nat) : Int)) = (Lib.bitLen x.toNat : Int) := by
  obtain ⟨t1, t2⟩ := tab8 (x / 4294967296 / 65536).toNat h
  rw [t1]
  have e : (x / 4294967296 / 65536).toNat = x.toNat / 281474976710656 := by omega
  have s := Lib.bitLen_shift 48 x.toNat (by omega) (by omega)
  rw [show (2 : Nat) ^ 48 = 281474976710656 from rfl] at s
  rw [e] at t2 ⊢
  rw [s]
  generalize Lib.bitLen (x.toNat / 281474976710656) = m at t2
  clear e s t1 h h0 h1 h2
  simp only [wrap64]
  omega

theorem k40 (x : Int) (h0 : 0 ≤ x) (h1 : x ≤ 18446744073709551615) (h2 : 1099511627776 ≤ x) (h : (x / 4294967296 / 256).toNat < Lib.len8tab.size) (hb : x / 4294967296 / 256 ≤ 255) : wrap64 (40 + wrap64 (((Lib.len8tab[(x / 4294967296 / 256).toNat]'h).toNat : Nat) : Int)) = (Lib.bitLen x.toNat : Int) := by
  obtain ⟨t1, t2⟩ := tab8 (x / 4294967296 / 256).toNat h
  rw [t1]
  have e : (x / 4294967296 / 256).toNat = x.toNat / 1099511627776 := by omega
  have s := Lib.bitLen_shift 40 x.toNat (by omega) (by omega)
  rw [show (2 : Nat) ^ 40 = 1099511627776 from rfl] at s
  rw [e] at t2 ⊢
  rw [s]
  generalize Lib.bitLen (x.toNat / 1099511627776) = m at t2
  clear e s t1 h h0 h1 h2
  simp only [wrap64]
  omega

theorem k32 (x : Int) (h0 : 0 ≤ x) (h1 : x ≤ 18446744073709551615) (h2 : 4294967296 ≤ x) (h : (x / 4294967296).toNat < Lib.len8tab.size) (hb : x / 4294967296 ≤ 255) : wrap64 (32 + wrap64 (((Lib.len8tab[(x / 4294967296).toNat]'h).toNat : Nat) : Int)) = (Lib.bitLen x.toNat : Int) := by
  obtain ⟨t1, t2⟩ := tab8 (x / 4294967296).toNat h
  rw [t1]
  have e : (x / 4294967296).toNat = x.toNat / 4294967296 := by omega
  have s := Lib.bitLen_shift 32 x.toNat (by omega) (by omega)
  rw [show (2 : Nat) ^ 32 = 4294967296 from rfl] at s
  rw [e] at t2 ⊢
  rw [s]
  generalize Lib.bitLen (x.toNat / 4294967296) = m at t2
  clear e s t1 h h0 h1 h2
  simp only [wrap64]
  omega

theorem k24 (x : Int) (h0 : 0 ≤ x) (h1 : x ≤ 18446744073709551615) (h2 : 16777216 ≤ x) (h : (x / 65536 / 256).toNat < Lib.len8tab.size) (hb : x / 65536 / 256 ≤ 255) : wrap64 (24 + wrap64 (((Lib.len8tab[(x / 65536 / 256).toNat]'h).toNat : Nat) : Int)) = (Lib.bitLen x.toNat : Int) := by
  obtain ⟨t1, t2⟩ := tab8 (x / 65536 / 256).toNat h
  rw [t1]
  have e : (x / 65536 / 256).toNat = x.toNat / 16777216 := by omega
  have s := Lib.bitLen_shift 24 x.toNat (by omega) (by omega)
  rw [show (2 : Nat) ^ 24 = 16777216 from rfl] at s
  rw [e] at t2 ⊢
  rw [s]
  generalize Lib.bitLen (x.toNat / 16777216) = m at t2
  clear e s t1 h h0 h1 h2
  simp only [wrap64]
  omega

theorem k16 (x : Int) (h0 : 0 ≤ x) (h1 : x ≤ 18446744073709551615) (h2 : 65536 ≤ x) (h : (x / 65536).toNat < Lib.len8tab.size) (hb : x / 65536 ≤ 255) : wrap64 (16 + wrap64 (((Lib.len8tab[(x / 65536).toNat]'h).toNat : Nat) : Int)) = (Lib.bitLen x.toNat : Int) := by
  obtain ⟨t1, t2⟩ := tab8 (x / 65536).toNat h
  rw [t1]
  have e : (x / 65536).toNat = x.toNat / 65536 := by omega
  have s := Lib.bitLen_shift 16 x.toNat (by omega) (by omega)
  rw [show (2 : Nat) ^ 16 = 65536 from rfl] at s
  rw [e] at t2 ⊢
  rw [s]
  generalize Lib.bitLen (x.toNat / 65536) = m at t2
  clear e s t1 h h0 h1 h2
  simp only [wrap64]
  omega

theorem k8 (x : Int) (h0 : 0 ≤ x) (h1 : x ≤ 18446744073709551615) (h2 : 256 ≤ x) (h : (x / 256).toNat < Lib.len8tab.size) (hb : x / 256 ≤ 255) : wrap64 (8 + wrap64 (((Lib.len8tab[(x / 256).toNat]'h).toNat : Nat) : Int)) = (Lib.bitLen x.toNat : Int) := by
  obtain ⟨t1, t2⟩ := tab8 (x / 256).toNat h
  rw [t1]
  have e : (x / 256).toNat = x.toNat / 256 := by omega
  have s := Lib.bitLen_shift 8 x.toNat (by omega) (by omega)
  rw [show (2 : Nat) ^ 8 = 256 from rfl] at s
  rw [e] at t2 ⊢
  rw [s]
  generalize Lib.bitLen (x.toNat / 256) = m at t2
  clear e s t1 h h0 h1 h2
  simp only [wrap64]
  omega

theorem k0 (x : Int) (h0 : 0 ≤ x) (h1 : x ≤ 18446744073709551615) (h : x.toNat < Lib.len8tab.size) (hb : x ≤ 255) : wrap64 (wrap64 (((Lib.len8tab[x.toNat]'h).toNat : Nat) : Int)) = (Lib.bitLen x.toNat : Int) := by
  obtain ⟨t1, t2⟩ := tab8 x.toNat h
  rw [t1]
  generalize Lib.bitLen x.toNat = m at t2
  clear t1 h h0 h1
  simp only [wrap64]
  omega

set_option maxHeartbeats 8000000 in
set_option maxRecDepth 100000 in
theorem len64 (x : Int) (w : World) (h0 : 0 ≤ x) (h1 : x ≤ 18446744073709551615) :
    Calls Tryz.prog 63 #[.int .u64 x] w fun e w' => e = .returned (.int .i64 (Lib.bitLen x.toNat)) ∧ w' = w := by
  have hs := Lib.len8tab_size
  go_enter Tryz.func63, Tryz.ntmps63
  go_wp2
  all_goals first
    | (exfalso; omega)
    | skip
  all_goals (go_ret; refine ⟨congrArg Ending.returned (congrArg (Value.int IntKind.i64) ?_), rfl⟩)
  all_goals first
    | exact k56 x h0 h1 (by omega) _ (by omega)
    | exact k48 x h0 h1 (by omega) _ (by omega)
    | exact k40 x h0 h1 (by omega) _ (by omega)
    | exact k32 x h0 h1 (by omega) _ (by omega)
    | exact k24 x h0 h1 (by omega) _ (by omega)
    | exact k16 x h0 h1 (by omega) _ (by omega)
    | exact k8 x h0 h1 (by omega) _ (by omega)
    | exact k0 x h0 h1 _ (by omega)

noncomputable def libLen32 (Γ : List (Int × Int)) (ins : List InD) (n : Nat) : Sm1 := told1 (gLen (cxG n Γ ins))
theorem libLen32_ok (Γ : List (Int × Int)) (ins : List InD) (n : Nat) : Sm1Ok (cxG n Γ ins) 116 (libLen32 Γ ins n) := fun ρ β s s' w args r v hρ hs h hr => told1_ok (cx := cxG n Γ ins) (gLen_ok rfl fun x w h0 h1 => len32 x w h0 h1) ρ β s s' w args r v hρ hs h hr
noncomputable def libLen64 (Γ : List (Int × Int)) (ins : List InD) (n : Nat) : Sm1 := told1 (gLen64 (cxG n Γ ins))
theorem libLen64_ok (Γ : List (Int × Int)) (ins : List InD) (n : Nat) : Sm1Ok (cxG n Γ ins) 63 (libLen64 Γ ins n) := fun ρ β s s' w args r v hρ hs h hr => told1_ok (cx := cxG n Γ ins) (gLen64_ok rfl fun x w h0 h1 => len64 x w h0 h1) ρ β s s' w args r v hρ hs h hr
section
open Go.RowKit Go.Shelf Go.Eng
attribute [local go_sem] Oper.semAt_some
theorem noBar {nx : Nat → List Nat} {a q : Nat} : Eng.Way nx (fun _ => false = true) a q ↔ Eng.Way nx (fun _ => False) a q := by
  have : (fun _ : Nat => false = true) = fun _ => False := by funext _; simp
  rw [this]
theorem free_ok' (W : World) (q : Nat) : Calls Tryz.prog 32 (#[.int .i64 (q : Nat)] ++ #[]) W fun e w' => e = .returned (.bool false) ∧ w' = W := free_ok _ W
theorem spread0_ok {R : Addr} {cR n : Nat} {nx : Nat → List Nat} (hn : n ≤ 64) (hn0 : 0 < n) (hnx : ∀ p, ∀ q ∈ nx p, q < n) (hnl : ∀ p, (nx p).length ≤ 1000) (w : World) (hR : Rws0 w R n nx) :
    Calls Tryz.prog 30 #[.slice (some R) n cR, .int .i64 0, .func (.func 32) #[] #[]] w fun e w' => ∃ B x, e = .returned (.slice (some ⟨B, 0, none⟩) 1 1) ∧ Wd w' B x ∧ w.heap.size ≤ B ∧ Below w.heap.size w w' ∧ ∀ q, x.testBit q = true ↔ Eng.Way nx (fun _ => False) 0 q := by
  refine (spread_ok (fb := 32) (caps := #[]) (br := fun _ => false) hn hn0 hnx hnl 0 (by omega) w hR (fun args w => (enters_of Tryz.func32 (by kernel_rfl) rfl) args w) (fun W' _ q _ => free_ok' W' q)).mono ?_
  rintro e w' ⟨B, rfl, x, h1, h2, h3, h4⟩
  exact ⟨B, x, rfl, h1, h2, h3, fun q => (h4 q).trans ⟨fun h => noBar.1 h.2.2, fun h => ⟨by omega, by omega, noBar.2 h⟩⟩⟩
def BoolR (e : Ending) (P : Prop) : Prop := ∃ r : Bool, e = .returned (.bool r) ∧ (r = true ↔ P)
/-- what is known of the rows of words -/
structure NxOk (w : World) (oa : Option Addr) (n c : Nat) (nx : Nat → List Nat) : Prop where
  le : n ≤ 64
  lt : ∀ p, ∀ q ∈ nx p, q < n
  len : ∀ p, (nx p).length ≤ 1000
  nd : ∀ p, (nx p).Nodup
  call : ∀ p, p < n → ∀ W, Below w.heap.size w W → Calls Tryz.prog 50 #[.slice oa n c, .int .i64 (p : Nat)] W fun e w' => ∃ v', e = .returned v' ∧ OwnW w' W.heap.size v' (nx p) ∧ Below W.heap.size W w'
theorem weave_nx {w : World} {oa : Option Addr} {n c : Nat} {nx : Nat → List Nat} (h : NxOk w oa n c nx) : Calls Tryz.prog 31 #[.slice oa n c] w fun e w' => ∃ BN BB, e = .returned (.agg #[.slice (some ⟨BN, 0, none⟩) n n, .slice (some ⟨BB, 0, none⟩) n n]) ∧ Rws0 w' ⟨BN, 0, none⟩ n nx ∧ Rws0 w' ⟨BB, 0, none⟩ n (bkw nx n) ∧ Below w.heap.size w w' :=
  weave_ok h.le h.lt h.len h.nd w h.call
/-- a new row of truths -/
def BoolsR (w w' : World) (Bo n : Nat) (P : Nat → Prop) : Prop := ∃ g : Nat → Bool, w'.rowIs Bo 4 n (fun p => .bool (g p)) ∧ w.heap.size ≤ Bo ∧ Below w.heap.size w w' ∧ ∀ p, p < n → (g p = true ↔ P p)
theorem field0 (a b : Option Addr) (m n c d : Nat) (w : World) : (Instr.field 88 (.agg #[.slice a m c, .slice b n d]) 0).run Tryz.prog w = .ok (.slice a m c) w := by kernel_rfl
set_option maxRecDepth 100000 in
set_option maxHeartbeats 1000000 in
theorem Reached_ok {w : World} {oa : Option Addr} {n c : Nat} {nx : Nat → List Nat} (h : NxOk w oa n c nx) (hn0 : 0 < n) :
    Calls Tryz.prog 18 #[.slice oa n c] w fun e w' => ∃ Bo, e = .returned (.slice (some ⟨Bo, 0, none⟩) n n) ∧ BoolsR w w' Bo n (fun p => Eng.Way nx (fun _ => False) 0 p) := by
  have hw := weave_nx h
  have hn := h.le
  have A : Hid (NxOk w oa n c nx) := h
  clear h
  have hfd := field0
  have hmk := run_make_row' (P := Tryz.prog) 56 4 (.bool false) 1 (by kernel_rfl) (by kernel_rfl) rfl .i64 .i64 n (by omega) (by omega)
  go_enter Tryz.func18, Tryz.ntmps18
  go_wp2_with (first
    | (go_at_call 31; refine hw.mono ?_; rintro e w2 ⟨BN, BB, rfl, hN, hB, hbl⟩)
    | (go_at_call 30; refine (spread0_ok hn hn0 A.out.lt A.out.len w2 hN).mono ?_; rintro e w3 ⟨Br, xr, rfl, hWr, hBr, hB3, hreach⟩)
    | fail)
  have hr0 := World.rowIs_made w3 (.bool false) n 4
  have hWr0 : Wd (w3.alloc (.cells (madeCells #[.bool false] n) 4)) Br xr := hWr.kept (World.grownBy_alloc _ _ none) (by simp)
  have hlt := hWr.lt
  have hb0 : Below w.heap.size w w3 := hbl.trans (hB3.mono hbl.size)
  have B : Hid (Below w.heap.size w w3 ∧ ∀ q, xr.testBit q = true ↔ Eng.Way nx (fun _ => False) 0 q) := ⟨hb0, hreach⟩
  clear hfd hmk hw hbl hB3 hN hB hb0 hreach hWr
  go_loopw [15] (fun v wr => ∃ (k : Nat) (g : Nat → Bool), k ≤ n ∧ v = .int .i64 (k : Nat) ∧ wr.rowIs w3.heap.size 4 n (fun p => .bool (g p)) ∧ Wd wr Br xr ∧ Below w3.heap.size w3 wr ∧ ∀ p, p < k → g p = xr.testBit p) (fun v _ => n - (intOf v).toNat)
  case atStart => exact ⟨0, fun _ => false, Nat.zero_le _, rfl, hr0, hWr0, (Below.refl _ w3).alloc (Nat.le_refl _) _, fun p hp => by omega⟩
  case round =>
    clear hr0 hWr0
    obtain ⟨k, g, hk, rfl, hr, hW, hB, hg⟩ := hrel
    by_cases hkn : k < n
    · have hp0 : (0 : Int) ≤ (k : Int) := Int.natCast_nonneg _
      have hp2 : (k : Int) < (n : Int) := by omega
      have c0 := hr.cell hkn
      have f0 := hr.frozen k
      go_wp2_with (first
        | (go_at_call 33; refine (has_ok Br 1 k xr _ hW (by omega)).mono ?_; rintro e w' ⟨rfl, rfl⟩)
        | fail)
      go_roundw
      case rel =>
        refine ⟨k + 1, fun p => if p = k then xr.testBit k else g p, hkn, by simp, (hr.set k (.bool (xr.testBit k))).congr fun p _ => ?_, hW.kept (grown_cell _ w3.heap.size k _) (fun e => by have := Option.some.inj e; omega), hB.setCell (p := ⟨w3.heap.size, k, none⟩) (Nat.le_refl _) _, fun p hp => ?_⟩
        · by_cases e : p = k
          · simp [e]
          · simp [e]
        · by_cases e : p = k
          · simp [e]
          · simp [e]; exact hg p (by omega)
      case measure =>
        show n - (intOf (Value.int .i64 ((k + 1 : Nat) : Int))).toNat < n - (intOf (Value.int .i64 (k : Nat))).toNat
        simp only [intOf, Int.toNat_natCast]
        omega
    · go_wp2
      go_ret
      exact ⟨w3.heap.size, rfl, g, hr, B.out.1.size, B.out.1.trans (hB.mono B.out.1.size), fun p hp => by rw [hg p (by omega)]; exact B.out.2 p⟩
/-- all blocks but two are as they were -/
structure Kp (W W' : World) (B1 B2 : Nat) : Prop where
  os : W'.os = W.os
  tape : W'.tape = W.tape
  output : W'.output = W.output
  size : W.heap.size ≤ W'.heap.size
  block : ∀ k, k < W.heap.size → k ≠ B1 → k ≠ B2 → W'.heap[k]? = W.heap[k]?
theorem Kp.refl (W : World) (B1 B2 : Nat) : Kp W W B1 B2 := ⟨rfl, rfl, rfl, Nat.le_refl _, fun _ _ _ _ => rfl⟩
theorem Kp.trans {a b c : World} {B1 B2 : Nat} (h : Kp a b B1 B2) (k : Kp b c B1 B2) : Kp a c B1 B2 :=
  ⟨k.os.trans h.os, k.tape.trans h.tape, k.output.trans h.output, Nat.le_trans h.size k.size, fun i hi n1 n2 => (k.block i (Nat.lt_of_lt_of_le hi h.size) n1 n2).trans (h.block i hi n1 n2)⟩
theorem Kp.one {a b : World} {B1 B2 : Nat} (h : a.grownBy b (some B1)) : Kp a b B1 B2 := ⟨h.os, h.tape, h.output, h.size, fun i hi n1 _ => h.block i hi (fun e => n1 (Option.some.inj e))⟩
theorem Kp.two {a b : World} {B1 B2 : Nat} (h : a.grownBy b (some B2)) : Kp a b B1 B2 := ⟨h.os, h.tape, h.output, h.size, fun i hi _ n2 => h.block i hi (fun e => n2 (Option.some.inj e))⟩
theorem Kp.cell {a b : World} {B1 B2 : Nat} (h : Kp a b B1 B2) {p : Addr} {v : Value} (hc : a.cell? p = some v) (n1 : p.block ≠ B1) (n2 : p.block ≠ B2) : b.cell? p = some v := by
  have := h.block p.block (cellLt hc) n1 n2
  unfold World.cell? at hc ⊢
  rw [this]; exact hc
theorem Kp.boxed {a b : World} {B1 B2 k : Nat} {t : TypeId} {v : Value} (h : Kp a b B1 B2) (hb : Boxed a k t v) (n1 : k ≠ B1) (n2 : k ≠ B2) : Boxed b k t v := (h.block k hb.lt n1 n2).trans hb
/-- what the walk in depth that looks for a way round leans on -/
structure Cw (W : World) (Bs bS bW bF bC : Nat) (R RB : Addr) (n : Nat) (nx : Nat → List Nat) : Prop where
  s : Boxed W bS 91 (.slice (some ⟨Bs, 0, none⟩) n n)
  web : W.heap[bW]? = some (.cells #[.slice (some R) n n, .slice (some RB) n n] 88 (0, 0))
  come : Boxed W bC 92 (.func (.func 34) #[] #[ptr bS, ptr bW, ptr bF, ptr bC])
  ne : (bS ≠ Bs ∧ bS ≠ bF) ∧ (bW ≠ Bs ∧ bW ≠ bF) ∧ (bC ≠ Bs ∧ bC ≠ bF) ∧ Bs ≠ bF
  rows : (R.block ≠ Bs ∧ R.block ≠ bF) ∧ ∀ p, p < n → ∃ oa c, W.cell? (R.add p) = some (.slice oa (nx p).length c) ∧ ∀ j q, (nx p)[j]? = some q → ∃ a : Addr, oa = some a ∧ (a.block ≠ Bs ∧ a.block ≠ bF) ∧ W.cell? (a.add j) = some (.int .i64 (q : Nat))
theorem Cw.kept {W W' : World} {Bs bS bW bF bC n : Nat} {R RB : Addr} {nx : Nat → List Nat} (h : Cw W Bs bS bW bF bC R RB n nx) (k : Kp W W' Bs bF) : Cw W' Bs bS bW bF bC R RB n nx := by
  refine ⟨k.boxed h.s h.ne.1.1 h.ne.1.2, (k.block bW (Array.getElem?_eq_some_iff.1 h.web).1 h.ne.2.1.1 h.ne.2.1.2).trans h.web, k.boxed h.come h.ne.2.2.1.1 h.ne.2.2.1.2, h.ne, h.rows.1, fun p hp => ?_⟩
  obtain ⟨oa, c, h1, h2⟩ := h.rows.2 p hp
  refine ⟨oa, c, k.cell h1 (by rw [addBlock]; exact h.rows.1.1) (by rw [addBlock]; exact h.rows.1.2), fun j q hj => ?_⟩
  obtain ⟨a, e, hb, hc⟩ := h2 j q hj
  exact ⟨a, e, hb, k.cell hc (by rw [addBlock]; exact hb.1) (by rw [addBlock]; exact hb.2)⟩
/-- the states: 0 fresh, 1 open, 2 done; and whether it was found -/
structure Cs (W : World) (Bs bF n : Nat) (st : Nat → Nat) (f : Bool) : Prop where
  row : W.rowIs Bs 3 n (fun q => .int .i64 (st q : Nat))
  fnd : Boxed W bF 4 (.bool f)
  le : ∀ q, st q ≤ 2
def fresh (n : Nat) (st : Nat → Nat) : Nat := ((List.range n).filter fun q => st q == 0).length
theorem fresh_le {n : Nat} {st st' : Nat → Nat} (h : ∀ q, st' q = 0 → st q = 0) : fresh n st' ≤ fresh n st := by
  unfold fresh
  simp only [← List.countP_eq_length_filter]
  exact List.countP_mono_left fun q _ hq => by simp only [beq_iff_eq] at hq ⊢; exact h q hq
theorem fresh_lt {n p : Nat} {st : Nat → Nat} (hp : p < n) (hs : st p = 0) : fresh n (fun q => if q = p then 1 else st q) < fresh n st := by
  unfold fresh
  obtain ⟨l1, l2, e⟩ := List.append_of_mem (List.mem_range.2 hp)
  have hm : ∀ l : List Nat, (l.filter fun q => (if q = p then 1 else st q) == 0).length ≤ (l.filter fun q => st q == 0).length := fun l => by
    simp only [← List.countP_eq_length_filter]
    exact List.countP_mono_left fun q _ hq => by
      simp only [beq_iff_eq] at hq ⊢
      by_cases e : q = p
      · rw [if_pos e] at hq; cases hq
      · rwa [if_neg e] at hq
  rw [e]
  have h1 := hm l1
  have h2 := hm l2
  simp only [List.filter_append, List.length_append, List.filter_cons, hs, if_true, beq_self_eq_true, List.length_cons] at h1 h2 ⊢
  simp only [Nat.reduceBEq, Bool.false_eq_true, if_false]
  omega
theorem Cs.set {W : World} {Bs bF n v : Nat} {st : Nat → Nat} {f : Bool} (h : Cs W Bs bF n st f) (hne : Bs ≠ bF) (p : Nat) (hv : v ≤ 2) : Cs (W.setCell ⟨Bs, p, none⟩ (.int .i64 (v : Nat))) Bs bF n (fun q => if q = p then v else st q) f := by
  refine ⟨(h.row.set p _).congr fun j _ => by by_cases e : j = p <;> simp [e], h.fnd.kept (grown_cell W Bs p _) (fun e => hne (Option.some.inj e).symm), fun q => ?_⟩
  by_cases e : q = p
  · rw [if_pos e]; exact hv
  · rw [if_neg e]; exact h.le q
theorem Cs.found {W : World} {Bs bF n : Nat} {st : Nat → Nat} {f : Bool} (h : Cs W Bs bF n st f) (hne : Bs ≠ bF) : Cs (W.setCell ⟨bF, 0, none⟩ (.bool true)) Bs bF n st true :=
  ⟨rowIs_kept h.row (grown_cell W bF 0 _) (fun e => hne (Option.some.inj e)), h.fnd.set _, h.le⟩
set_option maxRecDepth 100000 in
set_option maxHeartbeats 1000000 in
theorem cyc1_ok {Bs bS bW bF bC n : Nat} {R RB : Addr} {nx : Nat → List Nat} (hn : n ≤ 64) (hnx : ∀ p, ∀ q ∈ nx p, q < n) (hnl : ∀ p, (nx p).length ≤ 1000) :
    ∀ (k : Nat) (w : World) (st : Nat → Nat) (f : Bool) (p : Nat), fresh n st < k → p < n → Cs w Bs bF n st f → Cw w Bs bS bW bF bC R RB n nx → CyQ nx p (fun q => st q = 1) (fun q => st q = 2) (f = true) →
    Calls Tryz.prog 34 #[.int .i64 (p : Nat), ptr bS, ptr bW, ptr bF, ptr bC] w fun e w' => (∃ v, e = .returned v) ∧ ∃ st' f', Cs w' Bs bF n st' f' ∧ Kp w w' Bs bF ∧ CyP nx p (fun q => st q = 1) (fun q => st q = 2) (f = true) (fun q => st' q = 1) (fun q => st' q = 2) (f' = true) := by
  intro k
  induction k with
  | zero => intro w st f p h; omega
  | succ k ih =>
    intro w st f p hk hp hS hC hQ
    have hne := hC.ne.2.2.2
    have hst := hS.le
    have hs0 : st p = 0 := by
      have h1 := hS.le p
      have h2 := hQ.fr.1
      have h3 := hQ.fr.2
      omega
    have c1 := hC.s.cell
    have c2 := hS.row.cell hp
    have f2 := hS.row.frozen p
    have hS1 : Cs (w.setCell ⟨Bs, p, none⟩ (.int .i64 1)) Bs bF n (fun q => if q = p then 1 else st q) f := hS.set (v := 1) hne p (by omega)
    have hK1 : Kp w (w.setCell ⟨Bs, p, none⟩ (.int .i64 1)) Bs bF := .one (grown_cell w Bs p _)
    have hC1 := hC.kept hK1
    have d1 : (w.setCell ⟨Bs, p, none⟩ (.int .i64 1)).cell? ⟨bW, 0, none⟩ = some (.slice (some R) n n) := by
      have h := hC1.web
      unfold World.cell?
      simp only [h]
      rfl
    obtain ⟨oa, cr, hr00, hrj⟩ := hC.rows.2 p hp
    have hr0 := hK1.cell hr00 (by rw [addBlock]; exact hC.rows.1.1) (by rw [addBlock]; exact hC.rows.1.2)
    have hk1 : fresh n (fun q => if q = p then 1 else st q) < k := Nat.lt_of_lt_of_le (fresh_lt hp hs0) (by omega)
    clear hr00
    have hl := hnl p
    have hp0 : (0 : Int) ≤ (p : Int) := Int.natCast_nonneg _
    have hp1 : (p : Int) < (n : Int) := by omega
    have A : Hid (CyQ nx p (fun q => st q = 1) (fun q => st q = 2) (f = true) ∧ Cw w Bs bS bW bF bC R RB n nx ∧ st p = 0) := ⟨hQ, hC, hs0⟩
    have hL0 : CyL nx p (fun q => st q = 1) (fun q => st q = 2) (f = true) (fun q => (if q = p then 1 else st q) = 1) (fun q => (if q = p then 1 else st q) = 2) (f = true) 0 := by
      have h := CyL.start hQ
      have e1 : (fun x => st x = 1 ∨ x = p) = fun q => (if q = p then 1 else st q) = 1 := by
        funext q
        by_cases e : q = p <;> simp [e]
      have e2 : (fun q => st q = 2) = fun q => (if q = p then 1 else st q) = 2 := by
        funext q
        by_cases e : q = p
        · subst e; simp [hs0]
        · simp [e]
      rw [e1] at h
      rwa [← e2]
    clear hQ hC hs0 hS
    unfold ptr
    go_enter Tryz.func34, Tryz.ntmps34
    go_wp2_with fail
    go_loopw [17] (fun v wr => ∃ (i : Nat) (st2 : Nat → Nat) (f2 : Bool), v = .int .i64 (i : Nat) ∧ i ≤ (nx p).length ∧ Cs wr Bs bF n st2 f2 ∧ Kp w wr Bs bF ∧ CyL nx p (fun q => st q = 1) (fun q => st q = 2) (f = true) (fun q => st2 q = 1) (fun q => st2 q = 2) (f2 = true) i) (fun v _ => (nx p).length - (intOf v).toNat)
    case atStart => exact ⟨0, _, f, rfl, Nat.zero_le _, hS1, hK1, hL0⟩
    case round =>
      clear hS1 d1 c2 f2 hL0 c1
      obtain ⟨i, st2, f2, rfl, hi, hS2, hK2, hL⟩ := hrel
      have hC2 := A.out.2.1.kept hK2
      have c1 := hC2.s.cell
      have c3 := hC2.come.cell
      unfold ptr at c3
      by_cases hlt : i < (nx p).length
      · have hiq : (nx p)[i]? = some (nx p)[i] := List.getElem?_eq_getElem hlt
        have hq : (nx p)[i] < n := hnx p _ (List.getElem_mem hlt)
        generalize (nx p)[i] = q at *
        obtain ⟨a, rfl, hab, hac⟩ := hrj i q hiq
        have hac2 := hK2.cell hac (by rw [addBlock]; exact hab.1) (by rw [addBlock]; exact hab.2)
        have cq := hS2.row.cell hq
        have hq0 : (0 : Int) ≤ (q : Int) := Int.natCast_nonneg _
        have hq1 : (q : Int) < (n : Int) := by omega
        have hfr : fresh n st2 < k := Nat.lt_of_le_of_lt (fresh_le fun x hx => by
          have h1 := (hL.opn x).2
          have h2 := hL.sub x
          by_cases e : x = p
          · have := h1 (.inr e); omega
          · rw [if_neg e]
            have h3 := h1
            by_cases e1 : st x = 1
            · have := h1 (.inl e1); omega
            · by_cases e2 : st x = 2
              · have := h2 e2; omega
              · have hle : st x ≤ 2 := hst x
                omega) hk1
        have B : Hid (Cs wr Bs bF n st2 f2 ∧ Cw wr Bs bS bW bF bC R RB n nx ∧ CyL nx p (fun q => st q = 1) (fun q => st q = 2) (f = true) (fun q => st2 q = 1) (fun q => st2 q = 2) (f2 = true) i ∧ Kp w wr Bs bF) := ⟨hS2, hC2, hL, hK2⟩
        have hle := hS2.le q
        clear hrj hac
        rcases (by omega : st2 q = 0 ∨ st2 q = 1 ∨ st2 q = 2) with e | e | e
        · have hc := ih wr st2 f2 q hfr hq hS2 hC2 (hL.pre A.out.1 hiq (by simp [e]) (by simp [e]))
          unfold ptr at hc
          rw [e] at cq
          clear hS2 hC2 hL hK2
          go_wp2_with (first
            | (go_at_call 34; refine hc.mono ?_; rintro e w3 ⟨⟨v3, rfl⟩, st3, f3, g1, g2, g3⟩)
            | fail)
          go_roundw
          case rel => exact ⟨i + 1, st3, f3, by simp, hlt, g1, B.out.2.2.2.trans g2, B.out.2.2.1.call hiq g3⟩
          case measure =>
            show (nx p).length - (intOf (Value.int .i64 ((i + 1 : Nat) : Int))).toNat < (nx p).length - (intOf (Value.int .i64 (i : Nat))).toNat
            simp only [intOf, Int.toNat_natCast]
            omega
        · have cf := hS2.fnd.cell
          have ff := hS2.fnd.frozen
          have hS3 := hS2.found hne
          have cq3 := (hS3.row.cell hq)
          have c13 := ((Kp.two (B1 := Bs) (grown_cell wr bF 0 (.bool true))).boxed hC2.s hC2.ne.1.1 hC2.ne.1.2).cell
          rw [e] at cq cq3
          clear hS2 hC2 hL hK2
          go_wp2
          go_roundw
          case rel =>
            have hh := B.out.2.2.1.hit A.out.1 hiq e
            have et : True = (true = true) := by simp
            rw [et] at hh
            exact ⟨i + 1, st2, true, by simp, hlt, hS3, B.out.2.2.2.trans (.two (grown_cell wr bF 0 _)), hh⟩
          case measure =>
            show (nx p).length - (intOf (Value.int .i64 ((i + 1 : Nat) : Int))).toNat < (nx p).length - (intOf (Value.int .i64 (i : Nat))).toNat
            simp only [intOf, Int.toNat_natCast]
            omega
        · rw [e] at cq
          clear hS2 hC2 hL hK2
          go_wp2
          go_roundw
          case rel => exact ⟨i + 1, st2, f2, by simp, hlt, B.out.1, B.out.2.2.2, B.out.2.2.1.old hiq e⟩
          case measure =>
            show (nx p).length - (intOf (Value.int .i64 ((i + 1 : Nat) : Int))).toNat < (nx p).length - (intOf (Value.int .i64 (i : Nat))).toNat
            simp only [intOf, Int.toNat_natCast]
            omega
      · have cp := hS2.row.cell hp
        have fp := hS2.row.frozen p
        have hS3 : Cs (wr.setCell ⟨Bs, p, none⟩ (.int .i64 2)) Bs bF n (fun q => if q = p then 2 else st2 q) f2 := hS2.set (v := 2) hne p (by omega)
        have hF := hL.fin A.out.1 (by omega)
        have e1 : (fun x => st2 x = 1 ∧ x ≠ p) = fun q => (if q = p then 2 else st2 q) = 1 := by
          funext q
          by_cases e : q = p <;> simp [e]
        have e2 : (fun x => st2 x = 2 ∨ x = p) = fun q => (if q = p then 2 else st2 q) = 2 := by
          funext q
          by_cases e : q = p <;> simp [e]
        rw [e1, e2] at hF
        have hK3 : Kp w (wr.setCell ⟨Bs, p, none⟩ (.int .i64 2)) Bs bF := hK2.trans (.one (grown_cell wr Bs p _))
        clear hS2 hC2 hL hK2 e1 e2 hrj hr0
        go_wp2
        go_end0
        exact ⟨⟨_, rfl⟩, _, f2, hS3, hK3, hF⟩
def cyW (w : World) (n : Nat) (R RB : Addr) : World :=
  ((((w.alloc (.cells #[.slice (some R) n n, .slice (some RB) n n] 88)).alloc (.cells (madeCells #[.int .i64 0] n) 3)).alloc (.cells #[.slice (some ⟨w.heap.size + 1, 0, none⟩) n n] 91)).alloc (.cells #[.bool false] 4)).alloc
    (.cells #[.func (.func 34) #[] #[.pointer (some ⟨w.heap.size + 1 + 1, 0, none⟩), .pointer (some ⟨w.heap.size, 0, none⟩), .pointer (some ⟨w.heap.size + 1 + 1 + 1, 0, none⟩), .pointer (some ⟨w.heap.size + 1 + 1 + 1 + 1, 0, none⟩)]] 92)
theorem cyc_start {n : Nat} {nx : Nat → List Nat} {R RB : Addr} (hn : n ≤ 64) (hn0 : 0 < n) (hnx : ∀ p, ∀ q ∈ nx p, q < n) (hnl : ∀ p, (nx p).length ≤ 1000) (w : World) (hR : Rws0 w R n nx) :
    Calls Tryz.prog 34 #[.int .i64 0, .pointer (some ⟨w.heap.size + 1 + 1, 0, none⟩), .pointer (some ⟨w.heap.size, 0, none⟩), .pointer (some ⟨w.heap.size + 1 + 1 + 1, 0, none⟩), .pointer (some ⟨w.heap.size + 1 + 1 + 1 + 1, 0, none⟩)] (cyW w n R RB) fun e w' => (∃ v, e = .returned v) ∧ ∃ f : Bool, Boxed w' (w.heap.size + 1 + 1 + 1) 4 (.bool f) ∧ Below w.heap.size w w' ∧ (f = true ↔ Cyc nx) := by
  let o1 : Obj := .cells #[.slice (some R) n n, .slice (some RB) n n] 88
  let o2 : Obj := .cells (madeCells #[.int .i64 0] n) 3
  let o3 : Obj := .cells #[.slice (some ⟨w.heap.size + 1, 0, none⟩) n n] 91
  let o4 : Obj := .cells #[.bool false] 4
  let vf : Value := .func (.func 34) #[] #[.pointer (some ⟨w.heap.size + 1 + 1, 0, none⟩), .pointer (some ⟨w.heap.size, 0, none⟩), .pointer (some ⟨w.heap.size + 1 + 1 + 1, 0, none⟩), .pointer (some ⟨w.heap.size + 1 + 1 + 1 + 1, 0, none⟩)]
  let o5 : Obj := .cells #[vf] 92
  show Calls Tryz.prog 34 _ (((((w.alloc o1).alloc o2).alloc o3).alloc o4).alloc o5) _
  have b5 := Boxed.new ((((w.alloc o1).alloc o2).alloc o3).alloc o4) 92 vf
  have b4 := (Boxed.new (((w.alloc o1).alloc o2).alloc o3) 4 (.bool false)).alloc o5
  have b3 := ((Boxed.new ((w.alloc o1).alloc o2) 91 (.slice (some ⟨w.heap.size + 1, 0, none⟩) n n)).alloc o4).alloc o5
  have r2 := (((World.rowIs_made (w.alloc o1) (.int .i64 0) n 3).alloc o3).alloc o4).alloc o5
  have h1 : (((((w.alloc o1).alloc o2).alloc o3).alloc o4).alloc o5).heap[w.heap.size]? = some o1 :=
    (Below.heap_alloc _ _ _ (by simp; omega)).trans ((Below.heap_alloc _ _ _ (by simp; omega)).trans ((Below.heap_alloc _ _ _ (by simp; omega)).trans ((Below.heap_alloc _ _ _ (by simp)).trans (World.alloc_heap_new w _))))
  rw [World.size_alloc, World.size_alloc, World.size_alloc, World.size_alloc] at b5
  rw [World.size_alloc, World.size_alloc, World.size_alloc] at b4
  rw [World.size_alloc, World.size_alloc] at b3
  rw [World.size_alloc] at r2
  have hB : Below w.heap.size w (((((w.alloc o1).alloc o2).alloc o3).alloc o4).alloc o5) := ((((((Below.refl _ w).alloc (Nat.le_refl _) o1).alloc (by simp) o2).alloc (by simp; omega) o3).alloc (by simp; omega) o4).alloc (by simp; omega) o5)
  generalize (((((w.alloc o1).alloc o2).alloc o3).alloc o4).alloc o5) = W at *
  have hS : Cs W (w.heap.size + 1) (w.heap.size + 1 + 1 + 1) n (fun _ => 0) false := ⟨r2, b4, fun _ => by omega⟩
  have hC : Cw W (w.heap.size + 1) (w.heap.size + 1 + 1) w.heap.size (w.heap.size + 1 + 1 + 1) (w.heap.size + 1 + 1 + 1 + 1) R RB n nx := by
    refine ⟨b3, h1, b5, by omega, ?_, fun p hp => ?_⟩
    · obtain ⟨oa, c, g1, _⟩ := hR 0 hn0
      have := cellLt g1
      rw [addBlock] at this
      omega
    · obtain ⟨oa, c, g1, g2⟩ := hR p hp
      refine ⟨oa, c, (hB.cell (cellLt g1)).trans g1, fun j q hj => ?_⟩
      obtain ⟨a, e, hc⟩ := g2 j q hj
      have := cellLt hc
      have h' := this
      rw [addBlock] at h'
      exact ⟨a, e, by omega, (hB.cell this).trans hc⟩
  have e1 : (fun _ : Nat => (0 : Nat) = 1) = fun _ => False := by funext _; simp
  have e2 : (fun _ : Nat => (0 : Nat) = 2) = fun _ => False := by funext _; simp
  have hQ : CyQ nx 0 (fun _ => (0 : Nat) = 1) (fun _ => (0 : Nat) = 2) (false = true) := by
    rw [e1, e2]
    have e3 : (false = true) = False := by simp
    rw [e3]; exact CyQ.first
  refine (cyc1_ok hn hnx hnl _ W (fun _ => 0) false 0 (Nat.lt_succ_self _) hn0 hS hC hQ).mono ?_
  rintro e w' ⟨hv, st', f', g1, g2, g3⟩
  refine ⟨hv, f', g1.fnd, ⟨g2.os.trans hB.os, g2.tape.trans hB.tape, g2.output.trans hB.output, Nat.le_trans hB.size g2.size, fun i hi => (g2.block i (Nat.lt_of_lt_of_le hi hB.size) (by omega) (by omega)).trans (hB.block i hi)⟩, ?_⟩
  rw [e1, e2] at g3
  have e3 : (false = true) = False := by simp
  rw [e3] at g3
  exact g3.all
set_option maxRecDepth 100000 in
set_option maxHeartbeats 1000000 in
theorem Cyclic_ok {w : World} {oa : Option Addr} {n c : Nat} {nx : Nat → List Nat} (h : NxOk w oa n c nx) (hn0 : 0 < n) :
    Calls Tryz.prog 19 #[.slice oa n c] w fun e w' => BoolR e (Cyc nx) ∧ Below w.heap.size w w' := by
  have hw := weave_nx h
  have hn := h.le
  have A : Hid (NxOk w oa n c nx) := h
  clear h
  have hmk := run_make_row' (P := Tryz.prog) 91 3 (.int .i64 0) 8 (by kernel_rfl) (by kernel_rfl) rfl .i64 .i64 n (by omega) (by omega)
  go_enter Tryz.func19, Tryz.ntmps19
  go_wp2_with (first
    | (go_at_call 31; refine hw.mono ?_; rintro e w2 ⟨BN, BB, rfl, hN, hB, hbl⟩; have hc := cyc_start (RB := ⟨BB, 0, none⟩) hn hn0 A.out.lt A.out.len w2 hN; unfold cyW at hc)
    | (go_at_call 34; refine hc.mono ?_; rintro e w3 ⟨⟨v3, rfl⟩, f, hf, hb3, hcy⟩; have cf := hf.cell)
    | fail)
  go_ret
  exact ⟨⟨f, rfl, hcy⟩, hbl.trans (hb3.mono hbl.size)⟩
set_option maxRecDepth 100000 in
set_option maxHeartbeats 1000000 in
theorem spread_zero (R : Addr) (cR : Nat) (w : World) : Calls Tryz.prog 30 #[.slice (some R) 0 cR, .int .i64 0, .func (.func 32) #[] #[]] w fun e w' => ∃ B, e = .returned (.slice (some ⟨B, 0, none⟩) 0 0) ∧ Below w.heap.size w w' := by
  have hd : (0 + 63) / 64 = 0 := by omega
  go_enter Tryz.func30, Tryz.ntmps30
  go_wp2_with (first
    | (go_at_call 47; refine (none_ok 0 _ (by omega)).mono ?_; rintro e w2 ⟨rfl, rfl⟩; rw [hd])
    | fail)
  go_ret
  exact ⟨_, rfl, (((((Below.refl _ w).alloc (Nat.le_refl _) _).alloc (by simp only [World.size_alloc]; omega) _).alloc (by simp only [World.size_alloc]; omega) _).alloc (by simp only [World.size_alloc]; omega) _).alloc (by simp only [World.size_alloc]; omega) _⟩
set_option maxRecDepth 100000 in
set_option maxHeartbeats 1000000 in
theorem Reached_zero {w : World} {oa : Option Addr} {c : Nat} {nx : Nat → List Nat} (h : NxOk w oa 0 c nx) :
    Calls Tryz.prog 18 #[.slice oa 0 c] w fun e w' => ∃ Bo, e = .returned (.slice (some ⟨Bo, 0, none⟩) 0 0) ∧ BoolsR w w' Bo 0 (fun p => Eng.Way nx (fun _ => False) 0 p) := by
  have hw := weave_nx h
  have hfd := field0
  have hmk := run_make_row' (P := Tryz.prog) 56 4 (.bool false) 1 (by kernel_rfl) (by kernel_rfl) rfl .i64 .i64 0 (by omega) (by omega)
  rw [show ((0 : Nat) : Int) = 0 from rfl] at hmk
  go_enter Tryz.func18, Tryz.ntmps18
  go_wp2_with (first
    | (go_at_call 31; refine hw.mono ?_; rintro e w2 ⟨BN, BB, rfl, hN, hB, hbl⟩)
    | (go_at_call 30; refine (spread_zero _ _ w2).mono ?_; rintro e w3 ⟨Br, rfl, hB3⟩)
    | fail)
  go_loopw [15] (fun v wr => v = .int .i64 0 ∧ wr = w3.alloc (.cells (madeCells #[.bool false] 0) 4)) (fun _ _ => 0)
  case atStart => exact ⟨rfl, rfl⟩
  case round =>
    obtain ⟨rfl, rfl⟩ := hrel
    go_wp2
    go_ret
    exact ⟨w3.heap.size, rfl, fun _ => false, World.rowIs_made _ _ _ _, Nat.le_trans hbl.size hB3.size, (hbl.trans (hB3.mono hbl.size)).alloc (Nat.le_trans hbl.size hB3.size) _, fun p hp => by omega⟩
set_option maxRecDepth 100000 in
set_option maxHeartbeats 1000000 in
theorem Cyclic_zero {w : World} {oa : Option Addr} {c : Nat} {nx : Nat → List Nat} (h : NxOk w oa 0 c nx) :
    Calls Tryz.prog 19 #[.slice oa 0 c] w fun e w' => e = .returned (.bool false) ∧ Below w.heap.size w w' := by
  have hw := weave_nx h
  have hmk := run_make_row' (P := Tryz.prog) 91 3 (.int .i64 0) 8 (by kernel_rfl) (by kernel_rfl) rfl .i64 .i64 0 (by omega) (by omega)
  rw [show ((0 : Nat) : Int) = 0 from rfl] at hmk
  go_enter Tryz.func19, Tryz.ntmps19
  go_wp2_with (first
    | (go_at_call 31; refine hw.mono ?_; rintro e w2 ⟨BN, BB, rfl, hN, hB, hbl⟩; have hz := hbl.size)
    | fail)
  go_ret
  exact ⟨rfl, ((((hbl.alloc hz _).alloc (by simp only [World.size_alloc]; omega) _).alloc (by simp only [World.size_alloc]; omega) _).alloc (by simp only [World.size_alloc]; omega) _).alloc (by simp only [World.size_alloc]; omega) _⟩
theorem NxOk.alloc {w : World} {oa : Option Addr} {n c : Nat} {nx : Nat → List Nat} (h : NxOk w oa n c nx) (o : Obj) : NxOk (w.alloc o) oa n c nx :=
  ⟨h.le, h.lt, h.len, h.nd, fun p hp W hW => h.call p hp W (((Below.refl _ w).alloc (Nat.le_refl _) o).trans (hW.mono (by simp)))⟩
theorem Rws.zero {W : World} {B : Nat} {R : Addr} {n : Nat} {nx : Nat → List Nat} (h : Rws W B R n nx) : Rws0 W R n nx := fun p hp => by
  obtain ⟨oa, c, h1, h2⟩ := h.2 p hp
  exact ⟨oa, c, h1, fun j q hj => by obtain ⟨a, e, _, hc⟩ := h2 j q hj; exact ⟨a, e, hc⟩⟩
theorem rd_p0 (a b : Int) : rdZ (qQq a (qQq b 0)) 0 = a := qQy _ _
theorem rd_p1 (a b : Int) : rdZ (qQq a (qQq b 0)) 1 = b := by
  rw [qQh _ _ (by omega)]
  exact qQy _ _
theorem lz_rd (f : Nat → Int) (n : Nat) {i : Nat} (h : i < n) : rdZ (LZ ((List.range n).map f)) i = f i := by
  unfold rdZ
  rw [ZL_LZ, Int.toNat_natCast, List.getD_eq_getElem?_getD, List.getElem?_map, List.getElem?_range h]
  rfl
theorem nx_map {q : Int} {n p : Nat} : nxL q n p = (nxf q n p).map fun x : Nat => (x : Int) := by
  unfold nxf
  rw [List.map_map]
  refine (List.map_id _).symm.trans (List.map_congr_left fun x hx => ?_)
  have := nx_pos (Int.natCast_nonneg p) hx
  simp only [Function.comp, id]
  omega
theorem nx_cells {q : Int} {n p : Nat} (hn : n ≤ 1000000) : (nxN q n p).toNat = (nxf q n p).length ∧ rowV [.int .i64] (nxZ q n p) (nxN q n p).toNat = rowI (nxf q n p) := by
  have e : (nxN q n p).toNat = (nxL q n p).length := by unfold nxN; simp
  refine ⟨by rw [e]; unfold nxf; rw [List.length_map], ?_⟩
  rw [e]
  unfold nxZ
  rw [rowV_list _ fun x hx => by have := nx_pos (Int.natCast_nonneg p) hx; have := nx_mem hx; omega, nx_map]
  simp [rowI]
theorem nxok {cx : Cx} (hP : cx.P = Tryz.prog) (hN : NextC cx 50 3) {oa : Option Addr} {n c : Nat} {q : Int} {w : World} (h : Grw cx oa n c q w) : NxOk w oa n c (nxf q n) := by
  refine ⟨h.le, fun p x hx => by have := nxf_lt hx; omega, fun p => nxf_len _ _ _, fun p => nxf_nodup _ _ _, fun p hp W hW => ?_⟩
  have hn := h.le
  obtain ⟨e1, e2⟩ := nx_cells (q := q) (n := n) (p := p) (by omega)
  rw [← hP]
  refine (hN.all oa n c p q W (h.tab.below hW) (h.row.below hW) (by omega) hp).mono ?_
  rintro e w' ⟨v', rfl, ho, hb⟩
  rw [e2, e1] at ho
  refine ⟨v', rfl, ?_, hb⟩
  rcases ho with ⟨h1, h2⟩ | ⟨g, cap, cur, mk, h1, h2, h3, h4⟩
  · exact .inl ⟨h1, List.length_eq_zero_iff.1 h2⟩
  · exact .inr ⟨g, cap, cur, mk, h1, h2, h3, fun j x hj => h4 j _ (by unfold rowI; rw [List.getElem?_map, hj]; rfl)⟩
theorem own_of_row {W : World} {base B t n : Nat} {f : Nat → Value} (h : W.rowIs B t n f) (hb : base ≤ B) (hn : n ≤ 1000) : W.ownsRow base t 1 (.slice (some ⟨B, 0, none⟩) n n) n ((List.range n).map f) := by
  obtain ⟨C, h1, h2, h3⟩ := h
  refine ⟨by simp, .inr ⟨B, n, C, rfl, hb, h1, Nat.le_refl _, by simp only [maxLen]; omega, by simp [h2], ?_⟩⟩
  apply List.ext_getElem?
  intro i
  by_cases hi : i < n
  · rw [List.getElem?_take, if_pos (by omega), List.getElem?_map, List.getElem?_range hi]
    simpa using h3 i hi
  · rw [List.getElem?_eq_none (by rw [List.length_take]; omega), List.getElem?_eq_none (by simp; omega)]
open Classical in
theorem reach_row {q : Int} {n : Nat} (hn : n ≤ 64) : rowV [.bool] (gfmZ q n (qQq 0 (qQq (-1) 0))) n = (List.range n).map fun p => Value.bool (decide (Eng.Way (nxf q n) (fun _ => False) 0 p)) := by
  unfold rowV
  simp only [qQc, ckV]
  rw [tabL_one (fun i => Value.bool (rdZ (gfmZ q n (qQq 0 (qQq (-1) 0))) i != 0))]
  refine List.map_congr_left fun p hp => ?_
  have hp := List.mem_range.1 hp
  rw [Nat.zero_add]
  unfold gfmZ
  rw [rd_p0, rd_p1, lz_rd _ _ (by omega)]
  have eb : (fun x : Nat => (x : Int) = -1) = fun _ => False := by funext x; simp
  rw [eb]
  by_cases h : Eng.Way (nxf q n) (fun _ => False) 0 p
  · rw [if_pos ⟨by omega, by omega, by simpa using h⟩]; simp [h]
  · rw [if_neg fun g => h (by simpa using g.2.2)]; simp [h]
theorem greach {cx : Cx} (hP : cx.P = Tryz.prog) (hN : NextC cx 50 3) : GReachC cx 18 4 := by
  refine ⟨fun oa n c q w h => ?_⟩
  have hx := nxok hP hN h
  rw [hP]
  rcases Nat.eq_zero_or_pos n with rfl | h0
  · refine (Reached_zero hx).mono ?_
    rintro e w' ⟨Bo, rfl, g, h1, h2, h3, h4⟩
    exact ⟨_, rfl, own_of_row h1 h2 (by omega), h3⟩
  · refine (Reached_ok hx h0).mono ?_
    rintro e w' ⟨Bo, rfl, g, h1, h2, h3, h4⟩
    refine ⟨_, rfl, ?_, h3⟩
    rw [reach_row h.le]
    have := own_of_row h1 h2 (by have := h.le; omega)
    refine Eq.mp (congrArg _ (List.map_congr_left fun p hp => ?_)) this
    have := h4 p (List.mem_range.1 hp)
    by_cases g1 : g p = true
    · rw [g1]; simp [this.1 g1]
    · have g2 : g p = false := by simpa using g1
      have g3 : ¬Eng.Way (nxf q n) (fun _ => False) 0 p := fun h => g1 (this.2 h)
      rw [g2]; simp [g3]
theorem gcyc {cx : Cx} (hP : cx.P = Tryz.prog) (hN : NextC cx 50 3) : GCycC cx 19 := by
  refine ⟨fun oa n c q w h => ?_⟩
  have hx := nxok hP hN h
  rw [hP]
  rcases Nat.eq_zero_or_pos n with rfl | h0
  · refine (Cyclic_zero hx).mono ?_
    rintro e w' ⟨rfl, hB⟩
    refine ⟨?_, hB⟩
    have : ¬Cyc (nxf q (0 : Nat)) := fun ⟨p, _, t, ht, _⟩ => by
      rw [nxf_out (by omega)] at ht
      cases ht
    unfold cycZ
    rw [if_neg this]
    rfl
  · refine (Cyclic_ok hx h0).mono ?_
    rintro e w' ⟨⟨r, rfl, hr⟩, hB⟩
    refine ⟨?_, hB⟩
    have : (cycZ q n != 0) = r := by
      unfold cycZ
      by_cases g : Cyc (nxf q n)
      · rw [if_pos g, hr.2 g]; rfl
      · rw [if_neg g]
        cases r with
        | true => exact absurd (hr.1 rfl) g
        | false => rfl
    rw [this]
end
noncomputable def libGReach (Γ : List (Int × Int)) (ins : List InD) (n : Nat) : Sm1 := gReachT (cxG n Γ ins) 164 4
theorem libGReach_ok (hN : ∀ (n : Nat) (Γ : List (Int × Int)) (ins : List InD), NextC (cxG n Γ ins) 50 3) (Γ : List (Int × Int)) (ins : List InD) (n : Nat) : Sm1Ok (cxG n Γ ins) 18 (libGReach Γ ins n) := fun ρ β s s' w args r v hρ hs h hr => gReachT_ok (cx := cxG n Γ ins) (tabsG n Γ ins) hρ hs (greach rfl (hN n Γ ins)) (fun _ _ _ => rfl) h hr
noncomputable def libGCyc (Γ : List (Int × Int)) (ins : List InD) (n : Nat) : Sm1 := gCycT (cxG n Γ ins) 170
theorem libGCyc_ok (hN : ∀ (n : Nat) (Γ : List (Int × Int)) (ins : List InD), NextC (cxG n Γ ins) 50 3) (Γ : List (Int × Int)) (ins : List InD) (n : Nat) : Sm1Ok (cxG n Γ ins) 19 (libGCyc Γ ins n) := fun ρ β s s' w args r v hρ hs h hr => gCycT_ok (cx := cxG n Γ ins) (tabsG n Γ ins) hρ hs (gcyc rfl (hN n Γ ins)) (fun _ _ _ => rfl) h hr
section
open Go.RowKit Go.Shelf Go.Eng
attribute [local go_sem] Oper.semAt_some
noncomputable def wdB (c : Int) (p : Nat) : Int := IntKind.wrap .u32 (rdZ c p)
/-- code, as begin lays it -/
structure Cd (w : World) (SB KB : Nat) (oa : Option Addr) (cap N : Nat) (c : Int) : Prop where
  sl : w.cell? ⟨SB, 0, none⟩ = some (.slice oa N cap)
  a : 0 < N → oa = some ⟨KB, 0, none⟩
  f0 : ∀ p, p < N → w.cell? ⟨KB, p * 5, none⟩ = some (.int .i64 (decZ (wdB c p) 0))
  f1 : ∀ p, p < N → w.cell? ⟨KB, p * 5 + 1, none⟩ = some (.int .i64 (decZ (wdB c p) 1))
  f2 : ∀ p, p < N → w.cell? ⟨KB, p * 5 + 2, none⟩ = some (.int .i64 (decZ (wdB c p) 2))
  f3 : ∀ p, p < N → w.cell? ⟨KB, p * 5 + 3, none⟩ = some (.int .i64 (decZ (wdB c p) 3))
  f4 : ∀ p, p < N → w.cell? ⟨KB, p * 5 + 4, none⟩ = some (.int .i64 (decZ (wdB c p) 4))
set_option maxRecDepth 100000 in
set_option maxHeartbeats 1000000 in
theorem at_ok {w : World} {SB KB : Nat} {oa : Option Addr} {cap N : Nat} {c : Int} (h : Cd w SB KB oa cap N c) (hN : N ≤ 64) (p : Nat) (hp : p ≤ 1000000) :
    Calls Tryz.prog 21 #[.pointer (some ⟨SB, 0, none⟩), .int .i64 p] w fun e w' => Below w.heap.size w w' ∧ ((p < N ∧ opP c p ≠ 0 ∧ e = .returned (.tuple #[insV (wdB c p), .bool true])) ∨ ((N ≤ p ∨ opP c p = 0) ∧ e = .returned (.tuple #[.agg #[.int .i64 0, .int .i64 0, .int .i64 0, .int .i64 0, .int .i64 0], .bool false]))) := by
  have c0 := h.sl
  have l0 : SB < w.heap.size := World.block_lt_of_cell? w _ c0
  have hB : ∀ o, Below w.heap.size w (w.alloc o) := fun o => (Below.refl _ w).alloc (Nat.le_refl _) _
  go_enter Tryz.func21, Tryz.ntmps21
  by_cases hlt : p < N
  · have ha := h.a (by omega)
    subst ha
    have g0 := h.f0 p hlt
    have g1 := h.f1 p hlt
    have g2 := h.f2 p hlt
    have g3 := h.f3 p hlt
    have g4 := h.f4 p hlt
    have l1 : KB < w.heap.size := World.block_lt_of_cell? w _ g0
    by_cases h0 : opP c p = 0
    · have h0' : decZ (wdB c p) 0 = 0 := h0
      rw [h0'] at g0
      go_wp2
      go_returns
      exact ⟨hB _, .inr ⟨.inr h0, rfl⟩⟩
    · have h0' : ¬decZ (wdB c p) 0 = 0 := h0
      have h0'' : (decZ (wdB c p) 0 == 0) = false := by simpa using h0'
      go_wp2
      go_returns
      exact ⟨hB _, .inl ⟨hlt, h0, rfl⟩⟩
  · go_wp2
    go_returns
    exact ⟨hB _, .inr ⟨.inl (by omega), rfl⟩⟩
/-- a row of steps -/
def EdR (w : World) (base : Nat) (v : Value) (L : List (Int × Int × Int)) : Prop := (L = [] ∧ v = .slice none 0 0) ∨
  ∃ g cap, v = .slice (some ⟨g, 0, none⟩) L.length cap ∧ base ≤ g ∧ ∀ (j : Nat) e, L[j]? = some e → w.cell? ⟨g, j * 3, none⟩ = some (.int .i64 e.1) ∧ w.cell? ⟨g, j * 3 + 1, none⟩ = some (.int .i64 e.2.1) ∧ w.cell? ⟨g, j * 3 + 2, none⟩ = some (.int .i64 e.2.2)
theorem EdR.kept {w w' : World} {base : Nat} {row : Option Nat} {v : Value} {L : List (Int × Int × Int)} (h : EdR w base v L) (hg : w.grownBy w' row) (hr : ∀ k, row = some k → k < base) : EdR w' base v L := by
  rcases h with h | ⟨g, cap, h1, h2, h3⟩
  · exact .inl h
  · refine .inr ⟨g, cap, h1, h2, fun j e he => ?_⟩
    obtain ⟨a, b, c⟩ := h3 j e he
    have hne : some g ≠ row := fun e => by have := hr g e.symm; omega
    exact ⟨hg.cell a hne, hg.cell b hne, hg.cell c hne⟩
set_option maxRecDepth 100000 in
set_option maxHeartbeats 1000000 in
theorem edges_ok {cx : Cx} (hP : cx.P = Tryz.prog) (hC : CostC cx 22) {w : World} (hT : TabL cx w) (op d a b n : Int) (pc : Nat) (hop : klo .i64 ≤ op ∧ op ≤ khi .i64) (hp : pc ≤ 1000000) :
    Calls Tryz.prog 23 #[.agg #[.int .i64 op, .int .i64 d, .int .i64 a, .int .i64 b, .int .i64 n], .int .i64 pc] w fun e w' => ∃ v, e = .returned v ∧ EdR w' w.heap.size v (edgL op n pc) ∧ Below w.heap.size w w' := by
  have hT1 : ∀ o, TabL cx (w.alloc o) := fun o => hT.below ((Below.refl _ w).alloc (Nat.le_refl _) o)
  have hCc : ∀ o, Calls Tryz.prog 22 #[.int .i64 op] (w.alloc o) _ := fun o => hP ▸ hC.all op _ (hT1 o) hop
  have key : (op = 43 ∨ op = 41) ∨ (op = 39 ∨ op = 40) ∨ (op = 36 ∨ op = 37 ∨ op = 38) ∨ (op = 22 ∨ op = 23) ∨ (op = 34 ∨ op = 35) ∨ (¬op = 43 ∧ ¬op = 41 ∧ ¬op = 39 ∧ ¬op = 40 ∧ ¬op = 36 ∧ ¬op = 37 ∧ ¬op = 38 ∧ ¬op = 22 ∧ ¬op = 23 ∧ ¬op = 34 ∧ ¬op = 35) := by omega
  have kb : ∀ w2, Below (w.alloc (.cells #[.int .i64 op, .int .i64 d, .int .i64 a, .int .i64 b, .int .i64 n] 48)).heap.size (w.alloc (.cells #[.int .i64 op, .int .i64 d, .int .i64 a, .int .i64 b, .int .i64 n] 48)) w2 → w2.cell? ⟨w.heap.size, 0, none⟩ = some (.int .i64 op) ∧ w2.cell? ⟨w.heap.size, 4, none⟩ = some (.int .i64 n) ∧ w.heap.size < w2.heap.size ∧ Below w.heap.size w w2 := fun w2 hb => by
    have e : w2.heap[w.heap.size]? = some (.cells #[.int .i64 op, .int .i64 d, .int .i64 a, .int .i64 b, .int .i64 n] 48) := (hb.block _ (by simp)).trans (heap_alloc_new w _)
    have hs := hb.size
    simp at hs
    exact ⟨by simp [World.cell?, e], by simp [World.cell?, e], by omega, ((Below.refl _ w).alloc (Nat.le_refl _) _).trans (hb.mono (by simp))⟩
  have one : ∀ (w2 : World) (x y z : Int), Below w.heap.size w w2 → edgL op n pc = [(x, y, z)] → EdR (w2.alloc (.cells #[.int .i64 x, .int .i64 y, .int .i64 z] 66)) w.heap.size (.slice (some ⟨w2.heap.size, 0, none⟩) 1 1) (edgL op n pc) := fun w2 x y z hb e => by
    rw [e]
    refine .inr ⟨w2.heap.size, 1, rfl, hb.size, fun j e he => ?_⟩
    cases j with
    | zero => cases he; exact ⟨World.cell?_alloc_new _ _ _ _, World.cell?_alloc_new _ _ _ _, World.cell?_alloc_new _ _ _ _⟩
    | succ j => simp at he
  have two : ∀ (w2 : World) (x y z x' y' z' : Int), Below w.heap.size w w2 → edgL op n pc = [(x, y, z), (x', y', z')] → EdR (w2.alloc (.cells #[.int .i64 x, .int .i64 y, .int .i64 z, .int .i64 x', .int .i64 y', .int .i64 z'] 66)) w.heap.size (.slice (some ⟨w2.heap.size, 0, none⟩) 2 2) (edgL op n pc) := fun w2 x y z x' y' z' hb e => by
    rw [e]
    refine .inr ⟨w2.heap.size, 2, rfl, hb.size, fun j e he => ?_⟩
    match j, he with
    | 0, he => cases he; exact ⟨World.cell?_alloc_new _ _ _ _, World.cell?_alloc_new _ _ _ _, World.cell?_alloc_new _ _ _ _⟩
    | 1, he => cases he; exact ⟨World.cell?_alloc_new _ _ _ _, World.cell?_alloc_new _ _ _ _, World.cell?_alloc_new _ _ _ _⟩
    | j + 2, he => simp at he
  rcases key with h | h | h | h | h | h
  · have hL : edgL op n pc = [] := by unfold edgL; rw [if_pos h]
    rcases h with rfl | rfl
    all_goals
      go_enter Tryz.func23, Tryz.ntmps23
      go_wp2_with (first
        | (go_at_call 22; refine (hCc _).mono ?_; rintro e w2 ⟨rfl, hb⟩; obtain ⟨k0, k4, kl, kB⟩ := kb _ hb)
        | fail)
      go_ret
      exact ⟨_, rfl, .inl ⟨hL, rfl⟩, kB⟩
  · have hL : edgL op n pc = [(n, opCo op, opCo op)] := by unfold edgL; rw [if_neg (by omega), if_pos h]
    rcases h with rfl | rfl
    all_goals
      go_enter Tryz.func23, Tryz.ntmps23
      go_wp2_with (first
        | (go_at_call 22; refine (hCc _).mono ?_; rintro e w2 ⟨rfl, hb⟩; obtain ⟨k0, k4, kl, kB⟩ := kb _ hb)
        | fail)
      go_ret
      exact ⟨_, rfl, one _ _ _ _ kB hL, kB.alloc kB.size _⟩
  · have hL : edgL op n pc = [(n, 3, 3), ((pc : Int) + 1, opCo op, opCo op)] := by unfold edgL; rw [if_neg (by omega), if_neg (by omega), if_pos h]
    rcases h with rfl | rfl | rfl
    all_goals
      go_enter Tryz.func23, Tryz.ntmps23
      go_wp2_with (first
        | (go_at_call 22; refine (hCc _).mono ?_; rintro e w2 ⟨rfl, hb⟩; obtain ⟨k0, k4, kl, kB⟩ := kb _ hb)
        | fail)
      go_ret
      exact ⟨_, rfl, two _ _ _ _ _ _ _ kB hL, kB.alloc kB.size _⟩
  · have hL : edgL op n pc = [((pc : Int) + 1, 34, opCo op)] := by unfold edgL; rw [if_neg (by omega), if_neg (by omega), if_neg (by omega), if_pos h]
    rcases h with rfl | rfl
    all_goals
      go_enter Tryz.func23, Tryz.ntmps23
      go_wp2_with (first
        | (go_at_call 22; refine (hCc _).mono ?_; rintro e w2 ⟨rfl, hb⟩; obtain ⟨k0, k4, kl, kB⟩ := kb _ hb)
        | fail)
      go_ret
      exact ⟨_, rfl, one _ _ _ _ kB hL, kB.alloc kB.size _⟩
  · have hL : edgL op n pc = [((pc : Int) + 1, 3, opCo op)] := by unfold edgL; rw [if_neg (by omega), if_neg (by omega), if_neg (by omega), if_neg (by omega), if_pos h]
    rcases h with rfl | rfl
    all_goals
      go_enter Tryz.func23, Tryz.ntmps23
      go_wp2_with (first
        | (go_at_call 22; refine (hCc _).mono ?_; rintro e w2 ⟨rfl, hb⟩; obtain ⟨k0, k4, kl, kB⟩ := kb _ hb)
        | fail)
      go_ret
      exact ⟨_, rfl, one _ _ _ _ kB hL, kB.alloc kB.size _⟩
  · have hL : edgL op n pc = [((pc : Int) + 1, opCo op, opCo op)] := by unfold edgL; rw [if_neg (by omega), if_neg (by omega), if_neg (by omega), if_neg (by omega), if_neg (by omega)]
    obtain ⟨h1, h2, h3, h4, h5, h6, h7, h8, h9, h10, h11⟩ := h
    all_goals
      go_enter Tryz.func23, Tryz.ntmps23
      go_wp2_with (first
        | (go_at_call 22; refine (hCc _).mono ?_; rintro e w2 ⟨rfl, hb⟩; obtain ⟨k0, k4, kl, kB⟩ := kb _ hb)
        | fail)
      go_ret
      exact ⟨_, rfl, one _ _ _ _ kB hL, kB.alloc kB.size _⟩
theorem law3 : Maps.Keyed Tryz.prog 3 := Maps.int_keyed Tryz.underlying3
theorem zero3 (w : World) : (zeroValue 3).run Tryz.prog w = .ok (.int .i64 0) w := by kernel_rfl
theorem wf64 {x : Int} (h0 : -9223372036854775808 ≤ x) (h1 : x ≤ 9223372036854775807) : (Lit.int .i64 x).wf = true := by
  simp [Lit.wf, IntKind.min, IntKind.max, IntKind.bits, IntKind.signed]; omega
abbrev DW := DataW Unit
def key (q : Nat) : Lit := .int .i64 (q : Int)
def val (x : Int) : DW := .lit (.int .i64 x)
/-- how many places are known -/
def cnt (N : Nat) (D : DW) : Nat := ((List.range N).filter fun q => Maps.has D (key q)).length
theorem cnt_le (N : Nat) (D : DW) : cnt N D ≤ N := by
  have := List.length_filter_le (fun q => Maps.has D (key q)) (List.range N)
  rw [List.length_range] at this
  exact this
theorem key_ne {p q : Nat} (h : q ≠ p) : key q ≠ key p := fun e => by
  unfold key at e
  injection e with _ e
  exact h (by omega)
theorem key_lit (q : Nat) : WideAt.IsKeyLit (key q) := by unfold key WideAt.IsKeyLit; trivial
theorem cnt_put {N p : Nat} {D : DW} {d : DW} (hp : p < N) (hD : Maps.IsMap D) (h : Maps.has D (key p) = false) : cnt N D + 1 ≤ cnt N (D.put (key p) d) := by
  unfold cnt
  obtain ⟨l1, l2, e⟩ := List.append_of_mem (List.mem_range.2 hp)
  have hmono : ∀ l : List Nat, (l.filter fun q => Maps.has D (key q)).length ≤ (l.filter fun q => Maps.has (D.put (key p) d) (key q)).length := fun l => by
    simp only [← List.countP_eq_length_filter]
    refine List.countP_mono_left fun q _ h2 => ?_
    by_cases e : q = p
    · subst e; exact Maps.has_put_same hD (key_lit q) d
    · rw [Maps.has_put_other (key_ne e)]; exact h2
  have h1 := hmono l1
  have h2 := hmono l2
  have h3 := Maps.has_put_same hD (key_lit p) d
  rw [e]
  simp only [List.filter_append, List.length_append, List.filter_cons, h, h3, if_true, List.length_cons, Bool.false_eq_true, if_false]
  omega
/-- what is known is true -/
def MapOk (f : Nat → Int) (D : DW) : Prop := ∀ q, Maps.has D (key q) = true → D.atKey (key q) (val 0) = val (f q)
theorem MapOk.put {f : Nat → Int} {D : DW} (h : MapOk f D) (hD : Maps.IsMap D) (p : Nat) : MapOk f (D.put (key p) (val (f p))) := fun q hq => by
  by_cases e : q = p
  · subst e; exact Maps.atKey_put_same hD (key_lit q) _ _
  · rw [Maps.has_put_other (key_ne e)] at hq
    rw [Maps.atKey_put_other (key_ne e)]
    exact h q hq
/-- what a closure leans on -/
structure Ms (cx : Cx) (w : World) (SB KB : Nat) (oa : Option Addr) (cap N : Nat) (c : Int) (b1 b2 b3 MB fb : Nat) : Prop where
  cd : Cd w SB KB oa cap N c
  s : Boxed w b1 35 (.pointer (some ⟨SB, 0, none⟩))
  kn : Boxed w b2 59 (.map (some MB))
  from_ : Boxed w b3 31 (.func (.func fb) #[] #[.pointer (some ⟨b1, 0, none⟩), .pointer (some ⟨b2, 0, none⟩), .pointer (some ⟨b3, 0, none⟩)])
  ne : b1 ≠ MB ∧ b2 ≠ MB ∧ b3 ≠ MB ∧ SB ≠ MB ∧ KB ≠ MB
  tab : ∃ w0, TabL cx w0 ∧ w0.heap.size ≤ MB ∧ Below w0.heap.size w0 w
theorem Cd.kept {w w' : World} {SB KB : Nat} {oa : Option Addr} {cap N : Nat} {c : Int} {row : Option Nat} (h : Cd w SB KB oa cap N c) (hg : w.grownBy w' row) (h1 : some SB ≠ row) (h2 : some KB ≠ row) : Cd w' SB KB oa cap N c :=
  ⟨hg.cell h.sl h1, h.a, fun p hp => hg.cell (h.f0 p hp) h2, fun p hp => hg.cell (h.f1 p hp) h2, fun p hp => hg.cell (h.f2 p hp) h2, fun p hp => hg.cell (h.f3 p hp) h2, fun p hp => hg.cell (h.f4 p hp) h2⟩
theorem Ms.kept {cx : Cx} {w w' : World} {SB KB : Nat} {oa : Option Addr} {cap N : Nat} {c : Int} {b1 b2 b3 MB fb : Nat} (h : Ms cx w SB KB oa cap N c b1 b2 b3 MB fb) (hg : w.grownBy w' (some MB)) : Ms cx w' SB KB oa cap N c b1 b2 b3 MB fb := by
  obtain ⟨n1, n2, n3, n4, n5⟩ := h.ne
  have f : ∀ {x}, x ≠ MB → some x ≠ some MB := fun hx e => hx (Option.some.inj e)
  obtain ⟨w0, t1, t2, t3⟩ := h.tab
  exact ⟨h.cd.kept hg (f n4) (f n5), h.s.kept hg (f n1), h.kn.kept hg (f n2), h.from_.kept hg (f n3), h.ne, w0, t1, t2, t3.grown hg t3.size (fun k hk => by cases hk; exact t2)⟩
theorem Ms.tabl {cx : Cx} {w : World} {SB KB : Nat} {oa : Option Addr} {cap N : Nat} {c : Int} {b1 b2 b3 MB fb : Nat} (h : Ms cx w SB KB oa cap N c b1 b2 b3 MB fb) : TabL cx w := by
  obtain ⟨w0, t1, t2, t3⟩ := h.tab
  exact t1.below t3
theorem bel_grown {w w' : World} (h : Below w.heap.size w w') (row : Option Nat) : w.grownBy w' row := ⟨h.os, h.tape, h.output, h.size, fun k hk _ => h.block k hk⟩
theorem EdR.as {w : World} {base : Nat} {v : Value} {L : List (Int × Int × Int)} (h : EdR w base v L) : ∃ oa cap, v = .slice oa L.length cap ∧ ∀ (j : Nat) e, L[j]? = some e → ∃ g, oa = some ⟨g, 0, none⟩ ∧ base ≤ g ∧ w.cell? ⟨g, j * 3, none⟩ = some (.int .i64 e.1) ∧ w.cell? ⟨g, j * 3 + 1, none⟩ = some (.int .i64 e.2.1) ∧ w.cell? ⟨g, j * 3 + 2, none⟩ = some (.int .i64 e.2.2) := by
  rcases h with ⟨rfl, rfl⟩ | ⟨g, cap, rfl, h2, h3⟩
  · exact ⟨none, 0, rfl, fun j e he => by simp at he⟩
  · exact ⟨_, cap, rfl, fun j e he => ⟨g, rfl, h2, h3 j e he⟩⟩
theorem box5 {w2 w3 : World} {op a b d n : Int} (hb : Below (w2.alloc (.cells #[.int .i64 op, .int .i64 a, .int .i64 b, .int .i64 d, .int .i64 n] 48)).heap.size (w2.alloc (.cells #[.int .i64 op, .int .i64 a, .int .i64 b, .int .i64 d, .int .i64 n] 48)) w3) :
    w3.cell? ⟨w2.heap.size, 0, none⟩ = some (.int .i64 op) ∧ w3.cell? ⟨w2.heap.size, 1, none⟩ = some (.int .i64 a) ∧ w3.cell? ⟨w2.heap.size, 2, none⟩ = some (.int .i64 b) ∧ w3.cell? ⟨w2.heap.size, 3, none⟩ = some (.int .i64 d) ∧ w3.cell? ⟨w2.heap.size, 4, none⟩ = some (.int .i64 n) ∧ w2.heap.size < w3.heap.size ∧ Below w2.heap.size w2 w3 := by
  have e : w3.heap[w2.heap.size]? = some (.cells #[.int .i64 op, .int .i64 a, .int .i64 b, .int .i64 d, .int .i64 n] 48) := (hb.block _ (by simp)).trans (heap_alloc_new w2 _)
  have hs := hb.size
  simp at hs
  exact ⟨by simp [World.cell?, e], by simp [World.cell?, e], by simp [World.cell?, e], by simp [World.cell?, e], by simp [World.cell?, e], by omega, ((Below.refl _ w2).alloc (Nat.le_refl _) _).trans (hb.mono (by simp))⟩
theorem known_put {f : Nat → Int} {w : World} {MB N p : Nat} {Dr : DW} {x : Int} (hown : w.ownsMap Tryz.prog 3 (plainElem Tryz.prog 3) MB (cnt N Dr + 1) (Dr.put (key p) (val x))) (hx : x = f p) (hI : Maps.IsMap Dr) (hp : p < N) (h0 : Maps.has Dr (key p) = false) (hM : MapOk f Dr) :
    ∃ D' : DW, w.ownsMap Tryz.prog 3 (plainElem Tryz.prog 3) MB (cnt N D') D' ∧ MapOk f D' ∧ ∀ q, Maps.has D' (key q) = true → Maps.has Dr (key q) = true ∨ q = p := by
  subst hx
  refine ⟨_, hown.mono (cnt_put hp hI h0), hM.put hI p, fun q hq => ?_⟩
  by_cases e : q = p
  · exact .inr e
  · rw [Maps.has_put_other (key_ne e)] at hq
    exact .inl hq
theorem edgL_len (op n pc : Int) : (edgL op n pc).length ≤ 2 := by
  unfold edgL
  repeat' split
  all_goals simp
set_option maxRecDepth 100000 in
set_option maxHeartbeats 2000000 in
theorem most1_ok {cx : Cx} (hP : cx.P = Tryz.prog) (hC : CostC cx 22) {SB KB : Nat} {oa : Option Addr} {cap N : Nat} {c : Int} {b1 b2 b3 MB : Nat} (hN : N ≤ 64) (hf : frP c N) :
    ∀ (k : Nat) (w : World) (D : DW) (p : Nat), rk c N p < k → p ≤ 1000000 → OkP c N p → Ms cx w SB KB oa cap N c b1 b2 b3 MB 20 → w.ownsMap Tryz.prog 3 (plainElem Tryz.prog 3) MB (cnt N D) D → MapOk (fun q => mstZ c N q) D →
    Calls Tryz.prog 20 #[.int .i64 (p : Nat), .pointer (some ⟨b1, 0, none⟩), .pointer (some ⟨b2, 0, none⟩), .pointer (some ⟨b3, 0, none⟩)] w fun e w' => e = .returned (.int .i64 (mstZ c N p)) ∧ w.grownBy w' (some MB) ∧
      ∃ D' : DW, w'.ownsMap Tryz.prog 3 (plainElem Tryz.prog 3) MB (cnt N D') D' ∧ MapOk (fun q => mstZ c N q) D' ∧ ∀ q, Maps.has D' (key q) = true → Maps.has D (key q) = true ∨ rk c N q ≤ rk c N p := by
  intro k
  induction k with
  | zero => intro w D p h; omega
  | succ k ih =>
    intro w D p hk hp hO hM hown hD
    have c1 := hM.s.cell
    have c2 := hM.kn.cell
    have hat := at_ok hM.cd hN p hp
    have l2 : b2 < w.heap.size := World.block_lt_of_cell? w _ c2
    have hcn := cnt_le N D
    have hkey : keyOf Tryz.prog 3 (.int .i64 (p : Nat)) = some (key p) := Maps.keyOf_int_mk Tryz.underlying3 (wf64 (by omega) (by omega))
    by_cases hin : p < N ∧ opP c p ≠ 0
    · have hat' := hat.mono (fun e w' h => (show Below w.heap.size w w' ∧ e = .returned (.tuple #[insV (wdB c p), .bool true]) from ⟨h.1, by rcases h.2 with h | h; exact h.2.2; exact absurd hin (fun g => by have := g.1; have := g.2; omega)⟩))
      obtain ⟨hpN, hop⟩ := hin
      have hme := (mst_eq hN hf hpN hO hop).1
      have hnx := fun {e} he => ok_next (e := e) hN hf hpN hO hop he
      have hopb := decZ_bd (wdB c p) 0
      have hnot : ∀ D' : DW, Maps.has D (key p) = false → (∀ q, Maps.has D' (key q) = true → Maps.has D (key q) = true ∨ rk c N q < rk c N p) → Maps.has D' (key p) = false := fun D' h0 h => by
        cases e : Maps.has D' (key p) with
        | false => rfl
        | true => rcases h p e with g | g
                  · rw [h0] at g; cases g
                  · omega
      have hE0 : edgB c p = edgL (opP c p) (decZ (wdB c p) 4) p := rfl
      have hop0 : opP c p = decZ (wdB c p) 0 := rfl
      rw [hop0] at hme hE0 hop
      unfold insV at hat'
      clear hat hop0
      generalize decZ (wdB c p) 0 = op at *
      generalize decZ (wdB c p) 1 = y1 at *
      generalize decZ (wdB c p) 2 = y2 at *
      generalize decZ (wdB c p) 3 = y3 at *
      generalize decZ (wdB c p) 4 = y4 at *
      cases hh : Maps.has D (key p) with
      | true =>
        have hv := hD p hh
        go_enter Tryz.func20, Tryz.ntmps20
        go_wp2_with (first
          | (go_at_call 21; refine hat'.mono ?_; rintro e w2 ⟨hb, rfl⟩; have hgB := bel_grown hb (some MB); have hM2 := hM.kept hgB; have hown2 := hown.kept (bel_grown hb none) (by simp); have d2 := hM2.kn.cell; have l2' : b2 < w2.heap.size := World.block_lt_of_cell? w2 _ d2)
          | (at_lookup; refine wpList_lookup_own_ok_int _ rfl _ _ 59 rfl 3 3 .i64 law3 Tryz.underlying59 Tryz.underlying3 (zero3 _) MB (cnt N D) D rfl (hown2.alloc _) _ _ rfl hkey ?_; intro cv hatk hwc; rw [hh])
          | fail)
        go_ret
        have ev : val cv = val (mstZ c N p) := hatk.symm.trans hv
        have ev : cv = mstZ c N p := by unfold val at ev; injection ev with ev; injection ev
        exact ⟨by rw [ev]; rfl, hgB.trans (World.grownBy_alloc _ _ _), D, hown2.alloc _, hD, fun q h => .inl h⟩
      | false =>
        have hnot0 := hnot
        have hbm := mstZ_bd c N p
        by_cases h43 : op = 43
        · subst h43
          rw [show edgL 43 y4 p = [] from rfl] at hE0
          rw [hE0, List.foldl_nil, show mstI 43 = 1 from by decide] at hme
          go_enter Tryz.func20, Tryz.ntmps20
          go_wp2_with (first
            | (go_at_call 21; refine hat'.mono ?_; rintro e w2 ⟨hb, rfl⟩; have hgB := bel_grown hb (some MB); have hM2 := hM.kept hgB; have hown2 := hown.kept (bel_grown hb none) (by simp); have d2 := hM2.kn.cell; have l2' : b2 < w2.heap.size := World.block_lt_of_cell? w2 _ d2)
            | (at_lookup; refine wpList_lookup_own_ok_int _ rfl _ _ 59 rfl 3 3 .i64 law3 Tryz.underlying59 Tryz.underlying3 (zero3 _) MB (cnt N D) D rfl (hown2.alloc _) _ _ rfl hkey ?_; intro cv hatk hwc; rw [hh])
            | (go_at_call 22; refine ((hP ▸ hC.all 43 _ (hM2.tabl.below ((Below.refl _ w2).alloc (Nat.le_refl _) _)) (by simp [klo, khi])) : Calls Tryz.prog 22 #[.int .i64 43] _ _).mono ?_; rintro e w3 ⟨rfl, hb3⟩; obtain ⟨k0, k1, k2, k3, k4, l3, hB3⟩ := box5 hb3; have hM3 := hM2.kept (bel_grown hB3 (some MB)); have hown3 := hown2.kept (bel_grown hB3 none) (by simp))
            | (go_at_call 23; refine (edges_ok hP hC hM3.tabl 43 _ _ _ _ p (by simp [klo, khi]) hp).mono ?_; rintro e w4 ⟨v, rfl, hE, hb4⟩; rw [show edgL 43 y4 p = [] from rfl] at hE; obtain ⟨oa4, cap4, rfl, -⟩ := hE.as; have hM4 := hM3.kept (bel_grown hb4 (some MB)); have d4 := hM4.kn.cell; have hown4 := hown3.kept (bel_grown hb4 none) (by simp))
            | fail)
          refine wp_loop_rounds 1 ?_
          rw [rounds_succ]
          go_wp2_with (first
            | (at_mapUpdate; refine wpList_mapUpdate_own _ rfl _ _ _ 59 rfl 3 3 law3 Tryz.underlying59 _ MB _ D rfl hown4 (by simp only [maxLen]; omega) _ _ _ rfl rfl hkey _ [] (plainElem_int Tryz.underlying3 (wf64 (by decide) (by decide))) ?_; intro w5 hown5 hgrow5)
            | fail)
          go_ret
          obtain ⟨D', f1, f2, f3⟩ := known_put (f := fun q => mstZ c N q) hown5 hme.symm hown.isMap hpN hh hD
          exact ⟨by rw [hme]; rfl, ((hgB.trans (bel_grown hB3 _)).trans (bel_grown hb4 _)).trans hgrow5, D', f1, f2, fun q hq => (f3 q hq).imp id fun e => by rw [e]; exact Nat.le_refl _⟩
        · have hz0 : mstI op = 0 := if_neg h43
          obtain ⟨L, hL⟩ : ∃ L, Hid (L = edgL op y4 p) := ⟨_, rfl⟩
          have hLl : L.length ≤ 2 := by rw [hL.out]; exact edgL_len _ _ _
          rw [hE0, ← hL.out, hz0] at hme
          have hnx' : ∀ {e}, e ∈ L → ∃ t : Nat, e.1 = t ∧ t ≤ 1000000 ∧ OkP c N t ∧ rk c N t < rk c N p := fun {e} he => hnx (e := e) (by rw [hE0, ← hL.out]; exact he)
          have hmeH : Hid (mstZ c N p = L.foldl (mstU (mstZ c N)) 0) := hme
          clear hnx hE0 hnot0 hme
          have hlt0 := hown.lt
          go_enter Tryz.func20, Tryz.ntmps20
          go_wp2_with (first
            | (go_at_call 21; refine hat'.mono ?_; rintro e w2 ⟨hb, rfl⟩; have hgB := bel_grown hb (some MB); have hM2 := hM.kept hgB; have hown2 := hown.kept (bel_grown hb none) (by simp); have d2 := hM2.kn.cell; have l2' : b2 < w2.heap.size := World.block_lt_of_cell? w2 _ d2; have hsz2 := hb.size)
            | (at_lookup; refine wpList_lookup_own_ok_int _ rfl _ _ 59 rfl 3 3 .i64 law3 Tryz.underlying59 Tryz.underlying3 (zero3 _) MB (cnt N D) D rfl (hown2.alloc _) _ _ rfl hkey ?_; intro cv hatk hwc; rw [hh])
            | (go_at_call 23; refine (edges_ok hP hC (hM2.tabl.below ((Below.refl _ w2).alloc (Nat.le_refl _) _)) op _ _ _ _ p (by simp only [klo, khi]; omega) hp).mono ?_; rintro e w4 ⟨v, rfl, hE, hb4⟩; rw [← hL.out] at hE; obtain ⟨oa4, cap4, rfl, hE4⟩ := hE.as; obtain ⟨-, -, -, -, -, l4, hB4⟩ := box5 hb4; have hM4 := hM2.kept (bel_grown hB4 (some MB)); have hown4 := hown2.kept (bel_grown hB4 none) (by simp))
            | fail)
          go_loopw [10, 39] (fun v10 v39 wr => ∃ (j : Nat) (Dr : DW), v39 = .int .i64 (j : Nat) ∧ j ≤ L.length ∧ v10 = .int .i64 ((L.take j).foldl (mstU (mstZ c N)) 0) ∧ w4.grownBy wr (some MB) ∧ wr.ownsMap Tryz.prog 3 (plainElem Tryz.prog 3) MB (cnt N Dr) Dr ∧ MapOk (fun q => mstZ c N q) Dr ∧ ∀ q, Maps.has Dr (key q) = true → Maps.has D (key q) = true ∨ rk c N q < rk c N p) (fun _ v _ => L.length - (intOf v).toNat)
          case atStart => exact ⟨0, D, rfl, Nat.zero_le _, rfl, ⟨rfl, rfl, rfl, Nat.le_refl _, fun _ _ _ => rfl⟩, hown4, hD, fun q h => .inl h⟩
          case round =>
            obtain ⟨j, Dr, rfl, hj, rfl, hgr, hownr, hDr, hrk⟩ := hrel
            have hMr := hM4.kept hgr
            by_cases hlt : j < L.length
            · obtain ⟨⟨e1, x, y⟩, he⟩ : ∃ e, L[j]? = some e := ⟨_, List.getElem?_eq_getElem hlt⟩
              obtain ⟨t, h1, h2, h3, h4⟩ := hnx' (List.mem_of_getElem? he)
              obtain ⟨g, rfl, hg, q0, q1, q2⟩ := hE4 j _ he
              simp only at h1 q0 q1 q2
              subst h1
              simp at hg
              have hgne : some g ≠ some MB := fun e => by cases e; omega
              have r0 := hgr.cell q0 hgne
              have r1 := hgr.cell q1 hgne
              have r2 := hgr.cell q2 hgne
              have d3 := hMr.from_.cell
              have l3 : b3 < wr.heap.size := World.block_lt_of_cell? wr _ d3
              have lg : g < wr.heap.size := World.block_lt_of_cell? wr _ r0
              have hcall : ∀ W, wr.grownBy W none → _ := fun W hW => ih W Dr t (by omega) h2 h3 (hMr.kept ⟨hW.os, hW.tape, hW.output, hW.size, fun k hk _ => hW.block k hk (by simp)⟩) (hownr.kept hW (by simp)) hDr
              have hmt := mstZ_bd c N t
              have hxb := (edgL_bd (op := op) (n := y4) (pc := p) _ (by rw [← hL.out]; exact List.mem_of_getElem? he)).2.2.2
              dsimp only at hxb
              have hstep : Hid ((L.take (j + 1)).foldl (mstU (mstZ c N)) 0 = mstU (mstZ c N) ((L.take j).foldl (mstU (mstZ c N)) 0) (t, x, y)) := by
                show _ = _
                rw [List.take_add_one, he, List.foldl_append]; rfl
              generalize (L.take j).foldl (mstU (mstZ c N)) 0 = A at *
              have hszr := hgr.size
              have hneW : some wr.heap.size ≠ some MB := fun e => by have := Option.some.inj e; omega
              have hgA := World.grownBy_alloc wr (.cells #[.int .i64 (t : Nat), .int .i64 x, .int .i64 y] 66) none
              go_wp2_with fail
              go_region_with (first
                | (go_at_call 20; refine (hcall _ ?_).mono ?_; exact ⟨hgA.os, hgA.tape, hgA.output, hgA.size, hgA.block⟩; rintro e w6 ⟨rfl, hg6, D6, o6, m6, k6⟩; have r6 := hg6.cell (a := ⟨wr.heap.size, 1, none⟩) (v := .int .i64 x) (World.cell?_alloc_new _ _ _ _) hneW)
                | fail)
              all_goals
                go_wp2
                go_roundw
                case rel =>
                  have hg46 : w4.grownBy w6 (some MB) := hgr.trans ((World.grownBy_alloc wr _ _).trans ⟨hg6.os, hg6.tape, hg6.output, hg6.size, hg6.block⟩)
                  exact ⟨j + 1, D6, by simp, hlt, by rw [hstep.out]; first | rfl | (refine congrArg (Value.int .i64) ?_; unfold mstU; dsimp only; split <;> omega), hg46, o6, m6, fun q hq => by
                    rcases k6 q hq with h | h
                    · exact hrk q h
                    · exact .inr (by omega)⟩
                case measure =>
                  show L.length - (intOf (Value.int .i64 ((j + 1 : Nat) : Int))).toNat < L.length - (intOf (Value.int .i64 (j : Nat))).toNat
                  simp only [intOf, Int.toNat_natCast]
                  omega
            · have e : j = L.length := by omega
              subst e
              rw [List.take_length, ← hmeH.out]
              have d2' := hMr.kn.cell
              have l2'' : b2 < wr.heap.size := World.block_lt_of_cell? wr _ d2'
              have hcr := cnt_le N Dr
              go_wp2_with (first
                | (at_mapUpdate; refine wpList_mapUpdate_own _ rfl _ _ _ 59 rfl 3 3 law3 Tryz.underlying59 _ MB _ Dr rfl hownr (by simp only [maxLen]; omega) _ _ _ rfl rfl hkey _ [] (plainElem_int Tryz.underlying3 (wf64 (by omega) (by omega))) ?_; intro w5 hown5 hgrow5)
                | fail)
              go_ret
              obtain ⟨D', f1, f2, f3⟩ := known_put (f := fun q => mstZ c N q) hown5 rfl hownr.isMap hpN (hnot Dr hh hrk) hDr
              refine ⟨rfl, ((hgB.trans (bel_grown hB4 _)).trans hgr).trans hgrow5, D', f1, f2, fun q hq => ?_⟩
              rcases f3 q hq with h | rfl
              · exact (hrk q h).imp id Nat.le_of_lt
              · exact .inr (Nat.le_refl _)
    · have hat' := hat.mono (fun e w' h => (show Below w.heap.size w w' ∧ e = .returned (.tuple #[.agg #[.int .i64 0, .int .i64 0, .int .i64 0, .int .i64 0, .int .i64 0], .bool false]) from ⟨h.1, by rcases h.2 with h | h; exact absurd ⟨h.1, h.2.1⟩ hin; exact h.2⟩))
      have hz := (mst_out (c := c) (N := N) (p := p) (by rcases Nat.lt_or_ge p N with g | g; exact .inr (Classical.byContradiction fun h => hin ⟨g, h⟩); exact .inl g)).1
      clear hat
      go_enter Tryz.func20, Tryz.ntmps20
      go_wp2_with (first
        | (go_at_call 21; refine hat'.mono ?_; rintro e w2 ⟨hb, rfl⟩; have hgB := bel_grown hb (some MB); have hsz := hb.size)
        | fail)
      go_ret
      exact ⟨by rw [hz]; rfl, hgB.trans (World.grownBy_alloc _ _ _), D, (hown.kept (bel_grown hb none) (by simp)).alloc _, hD, fun q h => .inl h⟩
set_option maxRecDepth 100000 in
set_option maxHeartbeats 2000000 in
theorem least1_ok {cx : Cx} (hP : cx.P = Tryz.prog) (hC : CostC cx 22) {SB KB : Nat} {oa : Option Addr} {cap N : Nat} {c : Int} {b1 b2 b3 MB : Nat} (hN : N ≤ 64) (hf : frP c N) :
    ∀ (k : Nat) (w : World) (D : DW) (p : Nat), rk c N p < k → p ≤ 1000000 → OkP c N p → Ms cx w SB KB oa cap N c b1 b2 b3 MB 24 → w.ownsMap Tryz.prog 3 (plainElem Tryz.prog 3) MB (cnt N D) D → MapOk (fun q => lstZ c N q) D →
    Calls Tryz.prog 24 #[.int .i64 (p : Nat), .pointer (some ⟨b1, 0, none⟩), .pointer (some ⟨b2, 0, none⟩), .pointer (some ⟨b3, 0, none⟩)] w fun e w' => e = .returned (.int .i64 (lstZ c N p)) ∧ w.grownBy w' (some MB) ∧
      ∃ D' : DW, w'.ownsMap Tryz.prog 3 (plainElem Tryz.prog 3) MB (cnt N D') D' ∧ MapOk (fun q => lstZ c N q) D' ∧ ∀ q, Maps.has D' (key q) = true → Maps.has D (key q) = true ∨ rk c N q ≤ rk c N p := by
  intro k
  induction k with
  | zero => intro w D p h; omega
  | succ k ih =>
    intro w D p hk hp hO hM hown hD
    have c1 := hM.s.cell
    have c2 := hM.kn.cell
    have hat := at_ok hM.cd hN p hp
    have l2 : b2 < w.heap.size := World.block_lt_of_cell? w _ c2
    have hcn := cnt_le N D
    have hkey : keyOf Tryz.prog 3 (.int .i64 (p : Nat)) = some (key p) := Maps.keyOf_int_mk Tryz.underlying3 (wf64 (by omega) (by omega))
    by_cases hin : p < N ∧ opP c p ≠ 0
    · have hat' := hat.mono (fun e w' h => (show Below w.heap.size w w' ∧ e = .returned (.tuple #[insV (wdB c p), .bool true]) from ⟨h.1, by rcases h.2 with h | h; exact h.2.2; exact absurd hin (fun g => by have := g.1; have := g.2; omega)⟩))
      obtain ⟨hpN, hop⟩ := hin
      have hme := (mst_eq hN hf hpN hO hop).2
      have hnx := fun {e} he => ok_next (e := e) hN hf hpN hO hop he
      have hopb := decZ_bd (wdB c p) 0
      have hnot : ∀ D' : DW, Maps.has D (key p) = false → (∀ q, Maps.has D' (key q) = true → Maps.has D (key q) = true ∨ rk c N q < rk c N p) → Maps.has D' (key p) = false := fun D' h0 h => by
        cases e : Maps.has D' (key p) with
        | false => rfl
        | true => rcases h p e with g | g
                  · rw [h0] at g; cases g
                  · omega
      have hE0 : edgB c p = edgL (opP c p) (decZ (wdB c p) 4) p := rfl
      have hop0 : opP c p = decZ (wdB c p) 0 := rfl
      rw [hop0] at hme hE0 hop
      unfold insV at hat'
      clear hat hop0
      generalize decZ (wdB c p) 0 = op at *
      generalize decZ (wdB c p) 1 = y1 at *
      generalize decZ (wdB c p) 2 = y2 at *
      generalize decZ (wdB c p) 3 = y3 at *
      generalize decZ (wdB c p) 4 = y4 at *
      cases hh : Maps.has D (key p) with
      | true =>
        have hv := hD p hh
        go_enter Tryz.func24, Tryz.ntmps24
        go_wp2_with (first
          | (go_at_call 21; refine hat'.mono ?_; rintro e w2 ⟨hb, rfl⟩; have hgB := bel_grown hb (some MB); have hM2 := hM.kept hgB; have hown2 := hown.kept (bel_grown hb none) (by simp); have d2 := hM2.kn.cell; have l2' : b2 < w2.heap.size := World.block_lt_of_cell? w2 _ d2)
          | (at_lookup; refine wpList_lookup_own_ok_int _ rfl _ _ 59 rfl 3 3 .i64 law3 Tryz.underlying59 Tryz.underlying3 (zero3 _) MB (cnt N D) D rfl (hown2.alloc _) _ _ rfl hkey ?_; intro cv hatk hwc; rw [hh])
          | fail)
        go_ret
        have ev : val cv = val (lstZ c N p) := hatk.symm.trans hv
        have ev : cv = lstZ c N p := by unfold val at ev; injection ev with ev; injection ev
        exact ⟨by rw [ev]; rfl, hgB.trans (World.grownBy_alloc _ _ _), D, hown2.alloc _, hD, fun q h => .inl h⟩
      | false =>
        have hnot0 := hnot
        have hbm := lstZ_bd c N p
        by_cases h43 : op = 43
        · subst h43
          rw [show edgL 43 y4 p = [] from rfl] at hE0
          rw [hE0, List.foldl_nil, show lstI 43 = 1 from by decide] at hme
          go_enter Tryz.func24, Tryz.ntmps24
          go_wp2_with (first
            | (go_at_call 21; refine hat'.mono ?_; rintro e w2 ⟨hb, rfl⟩; have hgB := bel_grown hb (some MB); have hM2 := hM.kept hgB; have hown2 := hown.kept (bel_grown hb none) (by simp); have d2 := hM2.kn.cell; have l2' : b2 < w2.heap.size := World.block_lt_of_cell? w2 _ d2)
            | (at_lookup; refine wpList_lookup_own_ok_int _ rfl _ _ 59 rfl 3 3 .i64 law3 Tryz.underlying59 Tryz.underlying3 (zero3 _) MB (cnt N D) D rfl (hown2.alloc _) _ _ rfl hkey ?_; intro cv hatk hwc; rw [hh])
            | (go_at_call 22; refine ((hP ▸ hC.all 43 _ (hM2.tabl.below ((Below.refl _ w2).alloc (Nat.le_refl _) _)) (by simp [klo, khi])) : Calls Tryz.prog 22 #[.int .i64 43] _ _).mono ?_; rintro e w3 ⟨rfl, hb3⟩; obtain ⟨k0, k1, k2, k3, k4, l3, hB3⟩ := box5 hb3; have hM3 := hM2.kept (bel_grown hB3 (some MB)); have hown3 := hown2.kept (bel_grown hB3 none) (by simp))
            | (go_at_call 23; refine (edges_ok hP hC hM3.tabl 43 _ _ _ _ p (by simp [klo, khi]) hp).mono ?_; rintro e w4 ⟨v, rfl, hE, hb4⟩; rw [show edgL 43 y4 p = [] from rfl] at hE; obtain ⟨oa4, cap4, rfl, -⟩ := hE.as; have hM4 := hM3.kept (bel_grown hb4 (some MB)); have d4 := hM4.kn.cell; have hown4 := hown3.kept (bel_grown hb4 none) (by simp))
            | fail)
          refine wp_loop_rounds 1 ?_
          rw [rounds_succ]
          go_wp2_with (first
            | (at_mapUpdate; refine wpList_mapUpdate_own _ rfl _ _ _ 59 rfl 3 3 law3 Tryz.underlying59 _ MB _ D rfl hown4 (by simp only [maxLen]; omega) _ _ _ rfl rfl hkey _ [] (plainElem_int Tryz.underlying3 (wf64 (by decide) (by decide))) ?_; intro w5 hown5 hgrow5)
            | fail)
          go_ret
          obtain ⟨D', f1, f2, f3⟩ := known_put (f := fun q => lstZ c N q) hown5 hme.symm hown.isMap hpN hh hD
          exact ⟨by rw [hme]; rfl, ((hgB.trans (bel_grown hB3 _)).trans (bel_grown hb4 _)).trans hgrow5, D', f1, f2, fun q hq => (f3 q hq).imp id fun e => by rw [e]; exact Nat.le_refl _⟩
        · have hz0 : lstI op = -1 := if_neg h43
          obtain ⟨L, hL⟩ : ∃ L, Hid (L = edgL op y4 p) := ⟨_, rfl⟩
          have hLl : L.length ≤ 2 := by rw [hL.out]; exact edgL_len _ _ _
          rw [hE0, ← hL.out, hz0] at hme
          have hnx' : ∀ {e}, e ∈ L → ∃ t : Nat, e.1 = t ∧ t ≤ 1000000 ∧ OkP c N t ∧ rk c N t < rk c N p := fun {e} he => hnx (e := e) (by rw [hE0, ← hL.out]; exact he)
          have hmeH : Hid (lstZ c N p = L.foldl (lstU (lstZ c N)) (-1)) := hme
          clear hnx hE0 hnot0 hme
          have hlt0 := hown.lt
          go_enter Tryz.func24, Tryz.ntmps24
          go_wp2_with (first
            | (go_at_call 21; refine hat'.mono ?_; rintro e w2 ⟨hb, rfl⟩; have hgB := bel_grown hb (some MB); have hM2 := hM.kept hgB; have hown2 := hown.kept (bel_grown hb none) (by simp); have d2 := hM2.kn.cell; have l2' : b2 < w2.heap.size := World.block_lt_of_cell? w2 _ d2; have hsz2 := hb.size)
            | (at_lookup; refine wpList_lookup_own_ok_int _ rfl _ _ 59 rfl 3 3 .i64 law3 Tryz.underlying59 Tryz.underlying3 (zero3 _) MB (cnt N D) D rfl (hown2.alloc _) _ _ rfl hkey ?_; intro cv hatk hwc; rw [hh])
            | (go_at_call 23; refine (edges_ok hP hC (hM2.tabl.below ((Below.refl _ w2).alloc (Nat.le_refl _) _)) op _ _ _ _ p (by simp only [klo, khi]; omega) hp).mono ?_; rintro e w4 ⟨v, rfl, hE, hb4⟩; rw [← hL.out] at hE; obtain ⟨oa4, cap4, rfl, hE4⟩ := hE.as; obtain ⟨-, -, -, -, -, l4, hB4⟩ := box5 hb4; have hM4 := hM2.kept (bel_grown hB4 (some MB)); have hown4 := hown2.kept (bel_grown hB4 none) (by simp))
            | fail)
          go_loopw [10, 40] (fun v10 v39 wr => ∃ (j : Nat) (Dr : DW), v39 = .int .i64 (j : Nat) ∧ j ≤ L.length ∧ v10 = .int .i64 ((L.take j).foldl (lstU (lstZ c N)) (-1)) ∧ w4.grownBy wr (some MB) ∧ wr.ownsMap Tryz.prog 3 (plainElem Tryz.prog 3) MB (cnt N Dr) Dr ∧ MapOk (fun q => lstZ c N q) Dr ∧ ∀ q, Maps.has Dr (key q) = true → Maps.has D (key q) = true ∨ rk c N q < rk c N p) (fun _ v _ => L.length - (intOf v).toNat)
          case atStart => exact ⟨0, D, rfl, Nat.zero_le _, rfl, ⟨rfl, rfl, rfl, Nat.le_refl _, fun _ _ _ => rfl⟩, hown4, hD, fun q h => .inl h⟩
          case round =>
            obtain ⟨j, Dr, rfl, hj, rfl, hgr, hownr, hDr, hrk⟩ := hrel
            have hMr := hM4.kept hgr
            by_cases hlt : j < L.length
            · obtain ⟨⟨e1, x, y⟩, he⟩ : ∃ e, L[j]? = some e := ⟨_, List.getElem?_eq_getElem hlt⟩
              obtain ⟨t, h1, h2, h3, h4⟩ := hnx' (List.mem_of_getElem? he)
              obtain ⟨g, rfl, hg, q0, q1, q2⟩ := hE4 j _ he
              simp only at h1 q0 q1 q2
              subst h1
              simp at hg
              have hgne : some g ≠ some MB := fun e => by cases e; omega
              have r0 := hgr.cell q0 hgne
              have r1 := hgr.cell q1 hgne
              have r2 := hgr.cell q2 hgne
              have d3 := hMr.from_.cell
              have l3 : b3 < wr.heap.size := World.block_lt_of_cell? wr _ d3
              have lg : g < wr.heap.size := World.block_lt_of_cell? wr _ r0
              have hcall : ∀ W, wr.grownBy W none → _ := fun W hW => ih W Dr t (by omega) h2 h3 (hMr.kept ⟨hW.os, hW.tape, hW.output, hW.size, fun k hk _ => hW.block k hk (by simp)⟩) (hownr.kept hW (by simp)) hDr
              have hmt := lstZ_bd c N t
              have hxb := (edgL_bd (op := op) (n := y4) (pc := p) _ (by rw [← hL.out]; exact List.mem_of_getElem? he)).2
              dsimp only at hxb
              have hstep : Hid ((L.take (j + 1)).foldl (lstU (lstZ c N)) (-1) = lstU (lstZ c N) ((L.take j).foldl (lstU (lstZ c N)) (-1)) (t, x, y)) := by
                show _ = _
                rw [List.take_add_one, he, List.foldl_append]; rfl
              generalize (L.take j).foldl (lstU (lstZ c N)) (-1) = A at *
              have hszr := hgr.size
              have hneW : some wr.heap.size ≠ some MB := fun e => by have := Option.some.inj e; omega
              have hgA := World.grownBy_alloc wr (.cells #[.int .i64 (t : Nat), .int .i64 x, .int .i64 y] 66) none
              go_wp2_with (first
                | (go_at_call 24; refine (hcall _ hgA).mono ?_; rintro e w6 ⟨rfl, hg6, D6, o6, m6, k6⟩; have r6 := hg6.cell (a := ⟨wr.heap.size, 2, none⟩) (v := .int .i64 y) (World.cell?_alloc_new _ _ _ _) hneW)
                | fail)
              all_goals
                go_roundw
                case rel =>
                  have hg46 : w4.grownBy w6 (some MB) := hgr.trans ((World.grownBy_alloc wr _ _).trans ⟨hg6.os, hg6.tape, hg6.output, hg6.size, hg6.block⟩)
                  exact ⟨j + 1, D6, by simp, hlt, by rw [hstep.out]; refine congrArg (Value.int .i64) ?_; unfold lstU; dsimp only; split <;> omega, hg46, o6, m6, fun q hq => by
                    rcases k6 q hq with h | h
                    · exact hrk q h
                    · exact .inr (by omega)⟩
                case measure =>
                  show L.length - (intOf (Value.int .i64 ((j + 1 : Nat) : Int))).toNat < L.length - (intOf (Value.int .i64 (j : Nat))).toNat
                  simp only [intOf, Int.toNat_natCast]
                  omega
            · have e : j = L.length := by omega
              subst e
              rw [List.take_length, ← hmeH.out]
              have d2' := hMr.kn.cell
              have l2'' : b2 < wr.heap.size := World.block_lt_of_cell? wr _ d2'
              have hcr := cnt_le N Dr
              go_wp2_with (first
                | (at_mapUpdate; refine wpList_mapUpdate_own _ rfl _ _ _ 59 rfl 3 3 law3 Tryz.underlying59 _ MB _ Dr rfl hownr (by simp only [maxLen]; omega) _ _ _ rfl rfl hkey _ [] (plainElem_int Tryz.underlying3 (wf64 (by omega) (by omega))) ?_; intro w5 hown5 hgrow5)
                | fail)
              go_ret
              obtain ⟨D', f1, f2, f3⟩ := known_put (f := fun q => lstZ c N q) hown5 rfl hownr.isMap hpN (hnot Dr hh hrk) hDr
              refine ⟨rfl, ((hgB.trans (bel_grown hB4 _)).trans hgr).trans hgrow5, D', f1, f2, fun q hq => ?_⟩
              rcases f3 q hq with h | rfl
              · exact (hrk q h).imp id Nat.le_of_lt
              · exact .inr (Nat.le_refl _)
    · have hat' := hat.mono (fun e w' h => (show Below w.heap.size w w' ∧ e = .returned (.tuple #[.agg #[.int .i64 0, .int .i64 0, .int .i64 0, .int .i64 0, .int .i64 0], .bool false]) from ⟨h.1, by rcases h.2 with h | h; exact absurd ⟨h.1, h.2.1⟩ hin; exact h.2⟩))
      have hz := (mst_out (c := c) (N := N) (p := p) (by rcases Nat.lt_or_ge p N with g | g; exact .inr (Classical.byContradiction fun h => hin ⟨g, h⟩); exact .inl g)).2
      clear hat
      go_enter Tryz.func24, Tryz.ntmps24
      go_wp2_with (first
        | (go_at_call 21; refine hat'.mono ?_; rintro e w2 ⟨hb, rfl⟩; have hgB := bel_grown hb (some MB); have hsz := hb.size)
        | fail)
      go_ret
      exact ⟨by rw [hz]; rfl, hgB.trans (World.grownBy_alloc _ _ _), D, (hown.kept (bel_grown hb none) (by simp)).alloc _, hD, fun q h => .inl h⟩
/-- an instruction's cells -/
noncomputable def insC (x : Int) : List Value := [.int .i64 (decZ x 0), .int .i64 (decZ x 1), .int .i64 (decZ x 2), .int .i64 (decZ x 3), .int .i64 (decZ x 4)]
noncomputable def insL (c : Int) (n : Nat) : List Value := tabL (fun p => insC (wdB c p)) 0 n
theorem insL_next (c : Int) (n : Nat) : insL c (n + 1) = insL c n ++ insC (wdB c n) := by
  unfold insL
  rw [qZk n 1 0]
  simp [tabL]
theorem insL_get (c : Int) {n k r : Nat} (hk : k < n) (hr : r < 5) : (insL c n)[k * 5 + r]? = (insC (wdB c k))[r]? := by
  have := tabL_get (f := fun p => insC (wdB c p)) (z := 5) (fun _ => rfl) n 0 k r hk hr
  rwa [Nat.zero_add] at this
theorem info43 : (Tryz.prog.info? 48).map (fun i => (i.zero, i.size, i.bytes)) = some (some (.agg #[.int .i64 0, .int .i64 0, .int .i64 0, .int .i64 0, .int .i64 0]), 5, 40) := by kernel_rfl
theorem own_any {W : World} {base e z : Nat} {v : Value} {k : Nat} {xs : List Value} (h : W.ownsRow base e z v k xs) : (v = .slice none 0 0 ∧ k = 0) ∨ ∃ g cap, v = .slice (some ⟨g, 0, none⟩) k cap ∧ base ≤ g ∧ g < W.heap.size ∧ ∀ j u, xs[j]? = some u → W.cell? ⟨g, j, none⟩ = some u := by
  have h' := h
  rcases h.2 with h | ⟨g, cap, cur, rfl, hb, hg, hk, hcm, hcs, ht⟩
  · exact .inl h
  · refine .inr ⟨g, cap, rfl, hb, (Array.getElem?_eq_some_iff.1 hg).1, fun j u hj => ?_⟩
    have := h'.cells (g := g) rfl j u hj
    by_cases e : j = 0
    · subst e; simpa [Addr.add] using this
    · simpa [Addr.add, e] using this
theorem own_blk5 {W : World} {base b e z : Nat} {v : Value} {k : Nat} {xs : List Value} {C : Array Value} {t : TypeId} (h : W.ownsRow base e z v k xs) (hb : W.heap[b]? = some (.cells C t (0, 0))) (ht : t ≠ e) : some b ≠ v.ownBlock := by
  rcases h.2 with ⟨rfl, _⟩ | ⟨g, cap, cur, rfl, _, hg, _⟩
  · simp [Value.ownBlock]
  · intro e
    simp [Value.ownBlock] at e
    subst e
    rw [hb] at hg
    cases hg
    exact ht rfl
theorem cd_of {w : World} {SB base N : Nat} {c : Int} {vK : Value} (h : w.heap[SB]? = some (.cells #[vK] 55 (0, 0))) (ho : w.ownsRow base 48 5 vK N (insL c N)) : ∃ KB oa cap, KB < w.heap.size ∧ Cd w SB KB oa cap N c := by
  rcases own_any ho with ⟨rfl, rfl⟩ | ⟨g, cap, rfl, hb, hl, hc⟩
  · exact ⟨SB, none, 0, (Array.getElem?_eq_some_iff.1 h).1, by simp [World.cell?, h], fun h => by omega, fun p hp => by omega, fun p hp => by omega, fun p hp => by omega, fun p hp => by omega, fun p hp => by omega⟩
  · have f : ∀ p r u, p < N → r < 5 → (insC (wdB c p))[r]? = some u → w.cell? ⟨g, p * 5 + r, none⟩ = some u := fun p r u hp hr hu => hc _ _ ((insL_get c hp hr).trans hu)
    exact ⟨g, _, cap, hl, by simp [World.cell?, h], fun _ => rfl, fun p hp => f p 0 _ hp (by omega) rfl, fun p hp => f p 1 _ hp (by omega) rfl, fun p hp => f p 2 _ hp (by omega) rfl, fun p hp => f p 3 _ hp (by omega) rfl, fun p hp => f p 4 _ hp (by omega) rfl⟩
theorem growcB (W : World) (b i : Nat) (v : Value) : W.grownBy (W.setCell ⟨b, i, none⟩ v) (some b) :=
  ⟨rfl, rfl, rfl, by simp [World.setCell], fun k _ hk => Below.heap_setCell _ _ _ k (fun e => hk (by rw [e]))⟩
set_option maxRecDepth 100000 in
set_option maxHeartbeats 4000000 in
theorem begin_ok {cx : Cx} (hP : cx.P = Tryz.prog) (hR : GReachC cx 18 4) (hY : GCycC cx 19) (hDc : DecC cx 15) {oa : Option Addr} {n cp : Nat} {q : Int} {w : World} (hG : Grw cx oa n cp q w) :
    Calls Tryz.prog 11 #[.slice oa n cp] w fun e w' => Below w.heap.size w w' ∧
      ((frP q n ∧ ∃ SB KB oa' cap, w.heap.size ≤ SB ∧ KB < w'.heap.size ∧ Cd w' SB KB oa' cap n q ∧ e = .returned (.tuple #[.pointer (some ⟨SB, 0, none⟩), .bool true])) ∨ (¬frP q n ∧ ∃ v, e = .returned (.tuple #[v, .bool false]))) := by
  obtain ⟨i0, hi0, hz0, hz1, hz2⟩ := info_parts info43
  have hn := hG.le
  have hG1 : ∀ w', Below w.heap.size w w' → Grw cx oa n cp q w' := fun w' hb => ⟨hG.tab.below hb, hG.row.below hb, hG.le⟩
  have hA := (Below.refl _ w).alloc (Nat.le_refl _) (.cells #[.slice none 0 0] 55)
  go_enter Tryz.func11, Tryz.ntmps11
  go_wp2_with (first
    | (go_at_call 18; refine ((hP ▸ hR.all oa n cp q _ (hG1 _ hA)) : Calls Tryz.prog 18 _ _ _).mono ?_; rintro e w2 ⟨v5, rfl, ho5, hb5⟩)
    | fail)
  have hs5 := hb5.size
  simp at hs5
  have hB5 : Below w.heap.size w w2 := hA.trans (hb5.mono (by simp))
  have eS : w2.heap[w.heap.size]? = some (.cells #[.slice none 0 0] 55 (0, 0)) := (hb5.block _ (by simp)).trans (heap_alloc_new w _)
  -- the row of what is reached
  have hreach : ∀ p, p < n → ∃ g cap, v5 = .slice (some ⟨g, 0, none⟩) n cap ∧ w.heap.size < g ∧ w2.cell? ⟨g, p, none⟩ = some (.bool (rdZ (gfmZ q n (qQq 0 (qQq (-1) 0))) p != 0)) := fun p hp => by
    rcases own_any ho5 with ⟨_, h⟩ | ⟨g, cap, e, hb, _, hc⟩
    · omega
    · have hb' : w.heap.size + 1 ≤ g := by simpa using hb
      refine ⟨g, cap, e, by omega, hc p _ ?_⟩
      have := qKw [.bool] (gfmZ q n (qQq 0 (qQq (-1) 0))) (n := n) (k := p) (r := 0) hp (by simp)
      simp only [List.length_singleton, Nat.mul_one, Nat.add_zero] at this
      exact this.trans rfl
  have hv5 : ∃ oa5 c5, v5 = .slice oa5 n c5 := by
    rcases own_any ho5 with ⟨e, h⟩ | ⟨g, cap, e, _⟩
    · exact ⟨none, 0, by rw [e, h]⟩
    · exact ⟨_, cap, e⟩
  go_loopw [16] (fun v16 wr => ∃ (j : Nat) (vK : Value), v16 = .int .i64 (j : Nat) ∧ j ≤ n ∧ w2.grownBy wr (some w.heap.size) ∧ wr.heap[w.heap.size]? = some (.cells #[vK] 55 (0, 0)) ∧ wr.ownsRow w2.heap.size 48 5 vK j (insL q j) ∧ ∀ p : Nat, p < j → Eng.Way (nxf q n) (fun _ => False) 0 p → opP q p ≠ 41) (fun v _ => n - (intOf v).toNat)
  case atStart => exact ⟨0, _, rfl, Nat.zero_le _, ⟨rfl, rfl, rfl, Nat.le_refl _, fun _ _ _ => rfl⟩, eS, World.ownsRow_nil _ _ _ _, fun p hp => by omega⟩
  case round =>
    obtain ⟨j, vK, rfl, hj, hgr, hS, hK, hJ⟩ := hrel
    have hBr : Below w.heap.size w wr := hB5.grown hgr hB5.size (fun k hk => by cases hk; exact Nat.le_refl _)
    by_cases hlt : j < n
    · obtain ⟨aw, rfl, hwc⟩ : ∃ a, oa = some a ∧ w.cell? (a.add j) = some (.int .u32 (wdB q j)) := by
        refine hG.row.1 j _ ?_
        have := qKw [.int .u32] q (n := n) (k := j) (r := 0) hlt (by simp)
        simp only [List.length_singleton, Nat.mul_one, Nat.add_zero] at this
        exact this.trans rfl
      have hwr : wr.cell? (aw.add j) = some (.int .u32 (wdB q j)) := (World.cell?_of_block (hBr.block _ (World.block_lt_of_cell? w _ hwc))).trans hwc
      have hdc := fun w' (hb : Below w.heap.size w w') => (hP ▸ hDc.all (wdB q j) w' (hG.tab.below hb) (by unfold wdB; have := wu_bd (rdZ q j); exact this) : Calls Tryz.prog 15 #[.int .u32 (wdB q j)] w' fun e w'' => e = .returned (.tuple #[.agg #[.int .i64 (decZ (wdB q j) 0), .int .i64 (decZ (wdB q j) 1), .int .i64 (decZ (wdB q j) 2), .int .i64 (decZ (wdB q j) 3), .int .i64 (decZ (wdB q j) 4)], .int .i64 (decZ (wdB q j) 5)]) ∧ Below w'.heap.size w' w'')
      have lS : w.heap.size < wr.heap.size := (Array.getElem?_eq_some_iff.1 hS).1
      have hl2 : w2.heap.size ≤ wr.heap.size := hgr.size
      have hfact : ∀ w3, Below wr.heap.size wr w3 → w.heap.size < w3.heap.size ∧ w2.heap.size ≤ w3.heap.size ∧ w3.cell? ⟨w.heap.size, 0, none⟩ = some vK ∧ w3.frozen? ⟨w.heap.size, 0, none⟩ = false ∧ w3.ownsRow w2.heap.size 48 5 vK j (insL q j) := fun w3 hb => by
        have e := (hb.block _ lS).trans hS
        have := hb.size
        exact ⟨by omega, by omega, by simp [World.cell?, e], by simp [World.frozen?, e], hK.kept (bel_grown hb none) (Classical.em _)⟩
      have rS : some w.heap.size ≠ vK.ownBlock := own_blk5 hK hS (by decide)
      obtain ⟨oa5, c5, rfl⟩ := hv5
      obtain ⟨g5, cp5, e5, hg5, c5w⟩ := hreach j hlt
      have lg5 : g5 < w2.heap.size := World.block_lt_of_cell? w2 _ c5w
      simp only [Value.slice.injEq] at e5
      obtain ⟨rfl, -, rfl⟩ := e5
      have c5r : wr.cell? ⟨g5, j, none⟩ = some (.bool (rdZ (gfmZ q n (qQq 0 (qQq (-1) 0))) j != 0)) := (hgr.cell c5w (by simp; omega))
      generalize hbr : (rdZ (gfmZ q n (qQq 0 (qQq (-1) 0))) j != 0) = br at *
      go_wp2_with (first
        | (go_at_call 15; refine (hdc _ hBr).mono ?_; rintro e w3 ⟨rfl, hb3⟩; obtain ⟨l3, l32, cS, fS, hown⟩ := hfact _ hb3)
        | fail)
      have c53 : w3.cell? ⟨g5, j, none⟩ = some (.bool br) := (hb3.cell (p := ⟨g5, j, none⟩) (by simp; omega)).trans c5r
      have hB3 : Below w.heap.size w w3 := hBr.trans (hb3.mono hBr.size)
      have h3g : w2.grownBy w3 (some w.heap.size) := hgr.trans (bel_grown hb3 _)
      have hBx := ((Below.refl _ w3).alloc (Nat.le_refl _) (.cells #[.int .i64 (decZ (wdB q j) 0), .int .i64 (decZ (wdB q j) 1), .int .i64 (decZ (wdB q j) 2), .int .i64 (decZ (wdB q j) 3), .int .i64 (decZ (wdB q j) 4)] 48))
      have eB := heap_alloc_new w3 (.cells #[.int .i64 (decZ (wdB q j) 0), .int .i64 (decZ (wdB q j) 1), .int .i64 (decZ (wdB q j) 2), .int .i64 (decZ (wdB q j) 3), .int .i64 (decZ (wdB q j) 4)] 48)
      have eZ := World.size_alloc w3 (.cells #[.int .i64 (decZ (wdB q j) 0), .int .i64 (decZ (wdB q j) 1), .int .i64 (decZ (wdB q j) 2), .int .i64 (decZ (wdB q j) 3), .int .i64 (decZ (wdB q j) 4)] 48)
      have bB : some w3.heap.size ≠ vK.ownBlock := fun e => by have := (hown.lt _ e.symm).2; omega
      have b5 : some g5 ≠ vK.ownBlock := fun e => by have := (hown.lt _ e.symm).1; omega
      replace hown := hown.alloc (.cells #[.int .i64 (decZ (wdB q j) 0), .int .i64 (decZ (wdB q j) 1), .int .i64 (decZ (wdB q j) 2), .int .i64 (decZ (wdB q j) 3), .int .i64 (decZ (wdB q j) 4)] 48)
      replace cS := (hBx.cell l3).trans cS
      replace fS := (hBx.frozen l3).trans fS
      replace c53 := (hBx.cell (p := ⟨g5, j, none⟩) (by simp; omega)).trans c53
      generalize hW : w3.alloc (.cells #[.int .i64 (decZ (wdB q j) 0), .int .i64 (decZ (wdB q j) 1), .int .i64 (decZ (wdB q j) 2), .int .i64 (decZ (wdB q j) 3), .int .i64 (decZ (wdB q j) 4)] 48) = W at *
      have cB0 : W.cell? ⟨w3.heap.size, 0, none⟩ = some (.int .i64 (decZ (wdB q j) 0)) := by simp [World.cell?, eB]
      have cB1 : W.cell? ⟨w3.heap.size, 1, none⟩ = some (.int .i64 (decZ (wdB q j) 1)) := by simp [World.cell?, eB]
      have cB2 : W.cell? ⟨w3.heap.size, 2, none⟩ = some (.int .i64 (decZ (wdB q j) 2)) := by simp [World.cell?, eB]
      have cB3 : W.cell? ⟨w3.heap.size, 3, none⟩ = some (.int .i64 (decZ (wdB q j) 3)) := by simp [World.cell?, eB]
      have cB4 : W.cell? ⟨w3.heap.size, 4, none⟩ = some (.int .i64 (decZ (wdB q j) 4)) := by simp [World.cell?, eB]
      have l3' := l3
      generalize hb : w3.heap.size = b at *
      rw [← hb] at l3'
      have hnew : ∀ o, (W.alloc o).heap[b + 1]? = some o := fun o => eZ ▸ heap_alloc_new W o
      have hal : ∀ (o : Obj) (k : Nat), k < b + 1 → (W.alloc o).heap[k]? = W.heap[k]? := fun o k hk => Below.heap_alloc W _ _ (by omega)
      have hsz : ∀ o : Obj, (W.alloc o).heap.size = b + 2 := fun o => by rw [World.size_alloc]; omega
      have eSW0 : W.heap[w.heap.size]? = some (.cells #[vK] 55 (0, 0)) := by
        rw [← hW]
        exact (Below.heap_alloc w3 _ _ l3').trans ((hb3.block _ lS).trans hS)
      clear eB hdc hfact hBx hwr hK
      have hown' := (hown.alloc (.cells #[.int .i64 (decZ (wdB q j) 0), .int .i64 (decZ (wdB q j) 1), .int .i64 (decZ (wdB q j) 2), .int .i64 (decZ (wdB q j) 3), .int .i64 (decZ (wdB q j) 4)] 48)).drew
      have hWg : w2.grownBy W (some w.heap.size) := by
        rw [← hW]
        exact h3g.trans (bel_grown ((Below.refl _ w3).alloc (Nat.le_refl _) _) _)
      have hend : ∀ (gg cap : Nat) (w1 : World), w1.ownsRow w2.heap.size 48 5 (.slice (some ⟨gg, 0, none⟩) (j + 1) cap) (j + 1) (insL q j ++ [.int .i64 (decZ (wdB q j) 0), .int .i64 (decZ (wdB q j) 1), .int .i64 (decZ (wdB q j) 2), .int .i64 (decZ (wdB q j) 3), .int .i64 (decZ (wdB q j) 4)]) →
          (W.alloc (.cells #[.int .i64 (decZ (wdB q j) 0), .int .i64 (decZ (wdB q j) 1), .int .i64 (decZ (wdB q j) 2), .int .i64 (decZ (wdB q j) 3), .int .i64 (decZ (wdB q j) 4)] 48)).drew.grownBy w1 vK.ownBlock →
          (w1.setCell ⟨w.heap.size, 0, none⟩ (.slice (some ⟨gg, 0, none⟩) (j + 1) cap)).cell? ⟨b, 0, none⟩ = some (.int .i64 (decZ (wdB q j) 0)) ∧
          (w1.setCell ⟨w.heap.size, 0, none⟩ (.slice (some ⟨gg, 0, none⟩) (j + 1) cap)).cell? ⟨g5, j, none⟩ = some (.bool br) ∧
          w2.grownBy (w1.setCell ⟨w.heap.size, 0, none⟩ (.slice (some ⟨gg, 0, none⟩) (j + 1) cap)) (some w.heap.size) ∧
          (w1.setCell ⟨w.heap.size, 0, none⟩ (.slice (some ⟨gg, 0, none⟩) (j + 1) cap)).heap[w.heap.size]? = some (.cells #[.slice (some ⟨gg, 0, none⟩) (j + 1) cap] 55 (0, 0)) ∧
          (w1.setCell ⟨w.heap.size, 0, none⟩ (.slice (some ⟨gg, 0, none⟩) (j + 1) cap)).ownsRow w2.heap.size 48 5 (.slice (some ⟨gg, 0, none⟩) (j + 1) cap) (j + 1) (insL q (j + 1)) := fun gg cap w1 ho hg => by
        have hgb := (ho.lt gg rfl)
        have hs := hg.size
        simp only [World.size_drew, World.size_alloc] at hs
        have gb := growcB w1 w.heap.size 0 (.slice (some ⟨gg, 0, none⟩) (j + 1) cap)
        have eSW : w1.heap[w.heap.size]? = some (.cells #[vK] 55 (0, 0)) := (hg.block _ (by simp; omega) rS).trans ((hal _ _ (by omega)).trans eSW0)
        refine ⟨?_, ?_, ?_, ?_, ?_⟩
        · refine (gb.cell (a := ⟨b, 0, none⟩) ?_ (by simp; omega))
          exact (hg.cell_far _ (by simp; omega) bB).trans ((World.cell?_of_block (w := W) (hal _ _ (by simp))).trans cB0)
        · refine (gb.cell (a := ⟨g5, j, none⟩) ?_ (by simp; omega))
          exact (hg.cell_far _ (by simp; omega) b5).trans ((World.cell?_of_block (w := W) (hal _ _ (by simp; omega))).trans c53)
        · refine World.grownBy.trans ?_ gb
          refine ⟨hg.os.trans hWg.os, hg.tape.trans hWg.tape, hg.output.trans hWg.output, by have := hWg.size; omega, fun k hk hne => ?_⟩
          have h1 : some k ≠ vK.ownBlock := fun e => by have := (hown.lt _ e.symm).1; omega
          have h2 := hWg.size
          exact (hg.block k (by simp; omega) h1).trans ((hal _ _ (by omega)).trans (hWg.block k hk hne))
        · simp [World.setCell, Array.getElem?_modify, eSW]
        · rw [insL_next]
          exact ho.kept gb (.inr (fun e => by simp [Value.ownBlock] at e; omega))
      go_region_law
        ((refine step_append_lies _ (by rfl) _ _ _ (by rfl) w2.heap.size 48 i0 _ 5 40 Tryz.underlying53 hi0 hz0 hz1 hz2 rfl (by omega) vK _ _ (by rfl) hown'
              ⟨b + 1, 0, none⟩ 1 1 [.int .i64 (decZ (wdB q j) 0), .int .i64 (decZ (wdB q j) 1), .int .i64 (decZ (wdB q j) 2), .int .i64 (decZ (wdB q j) 3), .int .i64 (decZ (wdB q j) 4)] (by rfl) (by rfl) (World.news_of_block (cs := #[.int .i64 (decZ (wdB q j) 0), .int .i64 (decZ (wdB q j) 1), .int .i64 (decZ (wdB q j) 2), .int .i64 (decZ (wdB q j) 3), .int .i64 (decZ (wdB q j) 4)]) (t := 48) (fr := (0, 0)) (hnew _)) (by simp [Value.oneCell'])
              (by omega) (by simp only [maxLen]; omega) (by omega) (by simp; omega) (b + 2) (by simp; omega) ?_; intro gg cap w1 hown1 hgrow hat hlt1; have d0 := (hgrow.cell_far ⟨w.heap.size, 0, none⟩ (by simp; omega) (by simpa using rS)).trans ((World.cell?_of_block (w := W) (hal _ _ (by simp; omega))).trans cS); have d1 := (hgrow.frozen_far ⟨w.heap.size, 0, none⟩ (by simp; omega) (by simpa using rS)).trans ((World.frozen?_of_block (w := W) (hal _ _ (by simp; omega))).trans fS)))
      all_goals
        obtain ⟨k1, k2, k3, k4, k5⟩ := hend gg cap w1 hown1 hgrow
        generalize w1.setCell ⟨w.heap.size, 0, none⟩ (.slice (some ⟨gg, 0, none⟩) (j + 1) cap) = W4 at *
        clear hend d0 d1 hown1 hgrow hown hown' cB0 cB1 cB2 cB3 cB4 cS fS c53 hal hnew eZ hsz
        by_cases h41 : decZ (wdB q j) 0 = 41
        · rw [h41] at k1
          cases hbv : br with
          | true =>
            rw [hbv] at k2 hbr
            go_wp2
            go_returns
            refine ⟨hB5.grown k3 hB5.size (fun k hk => by cases hk; exact Nat.le_refl _), .inr ⟨fun hf => ?_, _, rfl⟩⟩
            exact hf.2 j (by omega) (by have := (gfm_0 (c := q) (n := (n : Int)) (x := (j : Int)) (by omega) (by omega) (by omega)).1 (by simpa using hbr); simpa using this) h41
          | false =>
            rw [hbv] at k2 hbr
            go_wp2
            go_roundw
            case rel =>
              refine ⟨j + 1, _, by simp, hlt, k3, k4, k5, fun p hp hw => ?_⟩
              rcases Nat.lt_succ_iff_lt_or_eq.1 hp with h | h
              · exact hJ p h hw
              · subst h
                have := (gfm_0 (c := q) (n := n) (x := p) (by omega) (by omega) (by omega)).2 (by simpa using hw)
                simp [this] at hbr
            case measure =>
              show n - (intOf (Value.int .i64 ((j + 1 : Nat) : Int))).toNat < n - (intOf (Value.int .i64 (j : Nat))).toNat
              simp only [intOf, Int.toNat_natCast]
              omega
        · go_wp2
          go_roundw
          case rel =>
            refine ⟨j + 1, _, by simp, hlt, k3, k4, k5, fun p hp hw => ?_⟩
            rcases Nat.lt_succ_iff_lt_or_eq.1 hp with h | h
            · exact hJ p h hw
            · subst h
              exact h41
          case measure =>
            show n - (intOf (Value.int .i64 ((j + 1 : Nat) : Int))).toNat < n - (intOf (Value.int .i64 (j : Nat))).toNat
            simp only [intOf, Int.toNat_natCast]
            omega
    · have ej : j = n := by omega
      subst ej
      have hYc : ∀ w', Below w.heap.size w w' → Calls Tryz.prog 19 #[.slice oa j cp] w' fun e w'' => e = .returned (.bool (cycZ q j != 0)) ∧ Below w'.heap.size w' w'' := fun w' hb => hP ▸ hY.all oa j cp q w' (hG1 _ hb)
      go_wp2_with (first
        | (go_at_call 19; refine (hYc _ hBr).mono ?_; rintro e w3 ⟨rfl, hb3⟩)
        | fail)
      go_returns
      have hB3 : Below w.heap.size w w3 := hBr.trans (hb3.mono hBr.size)
      refine ⟨hB3, ?_⟩
      have hS3 : w3.heap[w.heap.size]? = some (.cells #[vK] 55 (0, 0)) := (hb3.block _ (Array.getElem?_eq_some_iff.1 hS).1).trans hS
      have hK3 := hK.kept (bel_grown hb3 none) (Classical.em _)
      obtain ⟨KB, oa', cap', hk, hcd⟩ := cd_of hS3 hK3
      by_cases hcy : cycZ q j = 0
      · refine .inl ⟨⟨fun h => cyc_ne.2 h hcy, fun p hp hw => hJ p (by omega) hw⟩, _, KB, oa', cap', Nat.le_refl _, hk, hcd, by simp [hcy]⟩
      · refine .inr ⟨fun hf => hf.1 (cyc_ne.1 hcy), _, by simp [hcy]; rfl⟩
theorem owns_same {w w' : World} {b : Nat} {n : Nat} {D : DW} (h : w.ownsMap Tryz.prog 3 (plainElem Tryz.prog 3) b n D) (e : w'.heap[b]? = w.heap[b]?) : w'.ownsMap Tryz.prog 3 (plainElem Tryz.prog 3) b n D := by
  obtain ⟨es, ck, h1, h2⟩ := h
  exact ⟨es, ck, e.trans h1, h2⟩
theorem alp (w : World) (a b c d : Obj) : ((((w.alloc a).alloc b).alloc c).alloc d).heap = (((w.heap.push a).push b).push c).push d := rfl
theorem fresh_ms {cx : Cx} {SB KB : Nat} {oa : Option Addr} {cap N : Nat} {c : Int} {w : World} (fb : Nat) (hT : TabL cx w) (hC : Cd w SB KB oa cap N c) (hS : SB < w.heap.size) (hK : KB < w.heap.size) {w4 : World}
    (e : w4 = ((((w.alloc (.cells #[.pointer (some ⟨SB, 0, none⟩)] 35)).alloc (.map #[] 0)).alloc (.cells #[.map (some (w.heap.size + 1))] 59)).alloc (.cells #[.func (.func fb) #[] #[.pointer (some ⟨w.heap.size, 0, none⟩), .pointer (some ⟨w.heap.size + 1 + 1, 0, none⟩), .pointer (some ⟨w.heap.size + 1 + 1 + 1, 0, none⟩)]] 31))) :
    Ms cx w4 SB KB oa cap N c w.heap.size (w.heap.size + 1 + 1) (w.heap.size + 1 + 1 + 1) (w.heap.size + 1) fb ∧ w4.ownsMap Tryz.prog 3 (plainElem Tryz.prog 3) (w.heap.size + 1) 0 (.map [] : DW) ∧ Below w.heap.size w w4 := by
  have hb : Below w.heap.size w w4 := by
    rw [e]
    exact ((((Below.refl _ w).alloc (Nat.le_refl _) _).alloc (by simp) _).alloc (by simp; omega) _).alloc (by simp; omega) _
  have p0 : w4.heap[w.heap.size]? = some (.cells #[.pointer (some ⟨SB, 0, none⟩)] 35 (0, 0)) := by
    rw [e, alp]; simp only [Array.getElem?_push, Array.size_push]; (repeat' split) <;> first | rfl | (exfalso; omega) | (exfalso; rename_i h; exact h trivial) | (exfalso; rename_i h _; exact h trivial) | (exfalso; rename_i h _ _; exact h trivial) | (exfalso; rename_i h _ _ _; exact h trivial)
  have p1 : w4.heap[w.heap.size + 1]? = some (.map #[] 0) := by
    rw [e, alp]; simp only [Array.getElem?_push, Array.size_push]; (repeat' split) <;> first | rfl | (exfalso; omega) | (exfalso; rename_i h; exact h trivial) | (exfalso; rename_i h _; exact h trivial) | (exfalso; rename_i h _ _; exact h trivial) | (exfalso; rename_i h _ _ _; exact h trivial)
  have p2 : w4.heap[w.heap.size + 1 + 1]? = some (.cells #[.map (some (w.heap.size + 1))] 59 (0, 0)) := by
    rw [e, alp]; simp only [Array.getElem?_push, Array.size_push]; (repeat' split) <;> first | rfl | (exfalso; omega) | (exfalso; rename_i h; exact h trivial) | (exfalso; rename_i h _; exact h trivial) | (exfalso; rename_i h _ _; exact h trivial) | (exfalso; rename_i h _ _ _; exact h trivial)
  have p3 : w4.heap[w.heap.size + 1 + 1 + 1]? = some (.cells #[.func (.func fb) #[] #[.pointer (some ⟨w.heap.size, 0, none⟩), .pointer (some ⟨w.heap.size + 1 + 1, 0, none⟩), .pointer (some ⟨w.heap.size + 1 + 1 + 1, 0, none⟩)]] 31 (0, 0)) := by
    rw [e, alp]; simp only [Array.getElem?_push, Array.size_push]; (repeat' split) <;> first | rfl | (exfalso; omega) | (exfalso; rename_i h; exact h trivial) | (exfalso; rename_i h _; exact h trivial) | (exfalso; rename_i h _ _; exact h trivial) | (exfalso; rename_i h _ _ _; exact h trivial)
  have hm := World.ownsMap_made (H := Unit) (w.alloc (.cells #[.pointer (some ⟨SB, 0, none⟩)] 35)) Tryz.prog 3 (plainElem Tryz.prog 3)
  rw [World.size_alloc] at hm
  refine ⟨⟨hC.kept (bel_grown hb none) (by simp) (by simp), p0, p2, p3, ⟨by omega, by omega, by omega, by omega, by omega⟩, w, hT, by omega, hb⟩, owns_same hm ?_, hb⟩
  rw [p1]
  show _ = ((w.heap.push _).push _)[w.heap.size + 1]?
  simp only [Array.getElem?_push, Array.size_push]
  (repeat' split) <;> first | rfl | (exfalso; omega) | (exfalso; rename_i h; exact h trivial) | (exfalso; rename_i h _; exact h trivial) | (exfalso; rename_i h _ _; exact h trivial) | (exfalso; rename_i h _ _ _; exact h trivial)
set_option maxRecDepth 100000 in
set_option maxHeartbeats 1000000 in
theorem mostfn_ok {cx : Cx} {SB KB : Nat} {oa : Option Addr} {cap N : Nat} {c : Int} {w : World} (hT : TabL cx w) (hC : Cd w SB KB oa cap N c) (hS : SB < w.heap.size) (hK : KB < w.heap.size) :
    Calls Tryz.prog 12 #[.pointer (some ⟨SB, 0, none⟩)] w fun e w' => ∃ b1 b2 b3 MB, e = .returned (.func (.func 20) #[] #[.pointer (some ⟨b1, 0, none⟩), .pointer (some ⟨b2, 0, none⟩), .pointer (some ⟨b3, 0, none⟩)]) ∧ Ms cx w' SB KB oa cap N c b1 b2 b3 MB 20 ∧ w'.ownsMap Tryz.prog 3 (plainElem Tryz.prog 3) MB 0 (.map [] : DW) ∧ w.heap.size ≤ MB ∧ Below w.heap.size w w' := by
  have hmm := @run_makeMap Tryz.prog
  go_enter Tryz.func12, Tryz.ntmps12
  go_wp2
  go_ret
  obtain ⟨h1, h2, h3⟩ := fresh_ms 20 hT hC hS hK rfl
  exact ⟨_, _, _, _, rfl, h1, h2, by omega, h3⟩
set_option maxRecDepth 100000 in
set_option maxHeartbeats 1000000 in
theorem leastfn_ok {cx : Cx} {SB KB : Nat} {oa : Option Addr} {cap N : Nat} {c : Int} {w : World} (hT : TabL cx w) (hC : Cd w SB KB oa cap N c) (hS : SB < w.heap.size) (hK : KB < w.heap.size) :
    Calls Tryz.prog 13 #[.pointer (some ⟨SB, 0, none⟩)] w fun e w' => ∃ b1 b2 b3 MB, e = .returned (.func (.func 24) #[] #[.pointer (some ⟨b1, 0, none⟩), .pointer (some ⟨b2, 0, none⟩), .pointer (some ⟨b3, 0, none⟩)]) ∧ Ms cx w' SB KB oa cap N c b1 b2 b3 MB 24 ∧ w'.ownsMap Tryz.prog 3 (plainElem Tryz.prog 3) MB 0 (.map [] : DW) ∧ w.heap.size ≤ MB ∧ Below w.heap.size w w' := by
  have hmm := @run_makeMap Tryz.prog
  go_enter Tryz.func13, Tryz.ntmps13
  go_wp2
  go_ret
  obtain ⟨h1, h2, h3⟩ := fresh_ms 24 hT hC hS hK rfl
  exact ⟨_, _, _, _, rfl, h1, h2, by omega, h3⟩
theorem empty_ok (f : Nat → Int) : MapOk f (.map [] : DW) := fun q h => by simp [Maps.has] at h
theorem empty_cnt (N : Nat) : cnt N (.map [] : DW) = 0 := by
  unfold cnt
  rw [List.length_eq_zero_iff, List.filter_eq_nil_iff]
  intro q _ h
  simp [Maps.has] at h
theorem most_call {cx : Cx} (hP : cx.P = Tryz.prog) (hC : CostC cx 22) {SB KB : Nat} {oa : Option Addr} {cap N : Nat} {c : Int} {b1 b2 b3 MB : Nat} {w : World} (hN : N ≤ 64) (hf : frP c N) (hms : Ms cx w SB KB oa cap N c b1 b2 b3 MB 20) (hmap : w.ownsMap Tryz.prog 3 (plainElem Tryz.prog 3) MB 0 (.map [] : DW)) :
    Calls Tryz.prog 20 #[.int .i64 0, .pointer (some ⟨b1, 0, none⟩), .pointer (some ⟨b2, 0, none⟩), .pointer (some ⟨b3, 0, none⟩)] w fun e w' => e = .returned (.int .i64 (mstZ c N 0)) ∧ w.grownBy w' (some MB) := by
  refine ((most1_ok hP hC hN hf 65 w (.map []) 0 (by have := rk_le c N 0; omega) (by omega) (.inr (.here id)) hms (by rw [empty_cnt]; exact hmap) (empty_ok _)) : Calls Tryz.prog 20 #[.int .i64 0, .pointer (some ⟨b1, 0, none⟩), .pointer (some ⟨b2, 0, none⟩), .pointer (some ⟨b3, 0, none⟩)] w _).mono ?_
  rintro e w' ⟨h1, h2, -⟩
  exact ⟨h1, h2⟩
theorem least_call {cx : Cx} (hP : cx.P = Tryz.prog) (hC : CostC cx 22) {SB KB : Nat} {oa : Option Addr} {cap N : Nat} {c : Int} {b1 b2 b3 MB : Nat} {w : World} (hN : N ≤ 64) (hf : frP c N) (hms : Ms cx w SB KB oa cap N c b1 b2 b3 MB 24) (hmap : w.ownsMap Tryz.prog 3 (plainElem Tryz.prog 3) MB 0 (.map [] : DW)) :
    Calls Tryz.prog 24 #[.int .i64 0, .pointer (some ⟨b1, 0, none⟩), .pointer (some ⟨b2, 0, none⟩), .pointer (some ⟨b3, 0, none⟩)] w fun e w' => e = .returned (.int .i64 (lstZ c N 0)) ∧ w.grownBy w' (some MB) := by
  refine ((least1_ok hP hC hN hf 65 w (.map []) 0 (by have := rk_le c N 0; omega) (by omega) (.inr (.here id)) hms (by rw [empty_cnt]; exact hmap) (empty_ok _)) : Calls Tryz.prog 24 #[.int .i64 0, .pointer (some ⟨b1, 0, none⟩), .pointer (some ⟨b2, 0, none⟩), .pointer (some ⟨b3, 0, none⟩)] w _).mono ?_
  rintro e w' ⟨h1, h2, -⟩
  exact ⟨h1, h2⟩
set_option maxRecDepth 100000 in
set_option maxHeartbeats 2000000 in
theorem Most_ok {cx : Cx} (hP : cx.P = Tryz.prog) (hC : CostC cx 22) (hR : GReachC cx 18 4) (hY : GCycC cx 19) (hDc : DecC cx 15) {oa : Option Addr} {n cp : Nat} {q : Int} {w : World} (hG : Grw cx oa n cp q w) :
    Calls Tryz.prog 5 #[.slice oa n cp] w fun e w' => Below w.heap.size w w' ∧ e = .returned (.tuple #[.int .i64 (bmN q n), .int .i64 (bmE q n)]) := by
  have hbg := begin_ok hP hR hY hDc hG
  go_enter Tryz.func5, Tryz.ntmps5
  go_wp2_with (first
    | (go_at_call 11; refine hbg.mono ?_; rintro e w2 ⟨hb2, ⟨hf, SB, KB, oa', cap, hSB, hKB, hcd, rfl⟩ | ⟨hf, v, rfl⟩⟩)
    | (go_at_call 12; refine (mostfn_ok (hG.tab.below hb2) hcd (World.block_lt_of_cell? _ _ hcd.sl) hKB).mono ?_; rintro e w3 ⟨b1, b2, b3, MB, rfl, hms, hmap, hMB, hb3⟩)
    | (go_at_call 20; refine (most_call hP hC hG.le hf hms hmap).mono ?_; rintro e w4 ⟨rfl, hg4⟩)
    | fail)
  · go_returns
    have h2 := hb2.size
    have hB3 : Below w.heap.size w w3 := hb2.trans (hb3.mono h2)
    refine ⟨hB3.grown hg4 hB3.size (fun k hk => by cases hk; omega), ?_⟩
    simp [bmN, bmE, frZ, hf]
  · go_returns
    refine ⟨hb2, ?_⟩
    simp [bmN, bmE, frZ, hf]
set_option maxRecDepth 100000 in
set_option maxHeartbeats 2000000 in
theorem Least_ok {cx : Cx} (hP : cx.P = Tryz.prog) (hC : CostC cx 22) (hR : GReachC cx 18 4) (hY : GCycC cx 19) (hDc : DecC cx 15) {oa : Option Addr} {n cp : Nat} {q : Int} {w : World} (hG : Grw cx oa n cp q w) :
    Calls Tryz.prog 6 #[.slice oa n cp] w fun e w' => Below w.heap.size w w' ∧ e = .returned (.tuple #[.int .i64 (blN q n), .int .i64 (blE q n)]) := by
  have hbg := begin_ok hP hR hY hDc hG
  by_cases h0 : lstZ q n 0 < 0
  all_goals
    go_enter Tryz.func6, Tryz.ntmps6
    go_wp2_with (first
      | (go_at_call 11; refine hbg.mono ?_; rintro e w2 ⟨hb2, ⟨hf, SB, KB, oa', cap, hSB, hKB, hcd, rfl⟩ | ⟨hf, v, rfl⟩⟩)
      | (go_at_call 13; refine (leastfn_ok (hG.tab.below hb2) hcd (World.block_lt_of_cell? _ _ hcd.sl) hKB).mono ?_; rintro e w3 ⟨b1, b2, b3, MB, rfl, hms, hmap, hMB, hb3⟩)
      | (go_at_call 24; refine (least_call hP hC hG.le hf hms hmap).mono ?_; rintro e w4 ⟨rfl, hg4⟩)
      | fail)
    · go_returns
      have h2 := hb2.size
      have hB3 : Below w.heap.size w w3 := hb2.trans (hb3.mono h2)
      refine ⟨hB3.grown hg4 hB3.size (fun k hk => by cases hk; omega), ?_⟩
      first
        | (have h0' : ¬0 ≤ lstZ q n 0 := by omega
           simp [blN, blE, frZ, hf, h0'])
        | (have h0' : 0 ≤ lstZ q n 0 := by omega
           simp [blN, blE, frZ, hf, h0'])
    · go_returns
      refine ⟨hb2, ?_⟩
      simp [blN, blE, frZ, hf]
theorem bmost {cx : Cx} (hP : cx.P = Tryz.prog) (hN : NextC cx 50 3) (hC : CostC cx 22) (hD : DecC cx 15) : BoundC cx 5 bmN bmE := ⟨fun oa n c q w h => hP ▸ Most_ok hP hC (greach hP hN) (gcyc hP hN) hD h⟩
theorem bleast {cx : Cx} (hP : cx.P = Tryz.prog) (hN : NextC cx 50 3) (hC : CostC cx 22) (hD : DecC cx 15) : BoundC cx 6 blN blE := ⟨fun oa n c q w h => hP ▸ Least_ok hP hC (greach hP hN) (gcyc hP hN) hD h⟩
end
noncomputable def libBMost (Γ : List (Int × Int)) (ins : List InD) (n : Nat) : Sm1 := gBoundT (cxG n Γ ins) 180 181
theorem libBMost_ok (hN : ∀ (n : Nat) (Γ : List (Int × Int)) (ins : List InD), NextC (cxG n Γ ins) 50 3) (hC : ∀ (n : Nat) (Γ : List (Int × Int)) (ins : List InD), CostC (cxG n Γ ins) 22) (hD : ∀ (n : Nat) (Γ : List (Int × Int)) (ins : List InD), DecC (cxG n Γ ins) 15) (Γ : List (Int × Int)) (ins : List InD) (n : Nat) : Sm1Ok (cxG n Γ ins) 5 (libBMost Γ ins n) := fun ρ β s s' w args r v hρ hs h hr => gBoundT_ok (cx := cxG n Γ ins) (tabsG n Γ ins) hρ hs (bmost rfl (hN n Γ ins) (hC n Γ ins) (hD n Γ ins)) (fun _ _ _ => rfl) (fun _ _ _ => rfl) h hr
noncomputable def libBLeast (Γ : List (Int × Int)) (ins : List InD) (n : Nat) : Sm1 := gBoundT (cxG n Γ ins) 182 183
theorem libBLeast_ok (hN : ∀ (n : Nat) (Γ : List (Int × Int)) (ins : List InD), NextC (cxG n Γ ins) 50 3) (hC : ∀ (n : Nat) (Γ : List (Int × Int)) (ins : List InD), CostC (cxG n Γ ins) 22) (hD : ∀ (n : Nat) (Γ : List (Int × Int)) (ins : List InD), DecC (cxG n Γ ins) 15) (Γ : List (Int × Int)) (ins : List InD) (n : Nat) : Sm1Ok (cxG n Γ ins) 6 (libBLeast Γ ins n) := fun ρ β s s' w args r v hρ hs h hr => gBoundT_ok (cx := cxG n Γ ins) (tabsG n Γ ins) hρ hs (bleast rfl (hN n Γ ins) (hC n Γ ins) (hD n Γ ins)) (fun _ _ _ => rfl) (fun _ _ _ => rfl) h hr
end Go.Proofs.YtppkkgicidagmabGreatDoor
