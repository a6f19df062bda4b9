/-
  Functions of Go's library at this program, by their contracts, as the engine takes them. Printed by program.
-/
import Derived.Test.YtieocjnfjjgjeabGab
import Derived.Test.YtieocjnfjjgjeabShelf
import Derived.Lib.Walk
import Derived.Lib.Small
import Derived.Lib.Tables
import Derived.RangeFuncBox
import Derived.RangeFuncNested
import Derived.RangeFuncLeaves
import Derived.Shelf.Abstract
import Derived.Shelf.RegionOpen
import Derived.WalkKit
import Derived.OwnWalkIn
import Derived.TacticsInMore
import Derived.LoopNIn
import Derived.LoopIn
import Derived.Maps.OwnIn
import Derived.Maps.AppendAt
import Derived.Maps.RangeWalk
import Derived.Test.YtieocjnfjjgjeabGp3
import Derived.Lib.SliceRun
import Derived.Deep.LoopGhost
set_option linter.unusedVariables false
set_option linter.unusedSimpArgs false
namespace Go.Proofs.Ytieocjnfjjgjeab
open Go Go.Eng Go.RowKit
theorem sortC_ok : SortC Try.prog 22 := ⟨Try.slices_Sort_int, Try.slices_Sort_int_none⟩
noncomputable def libSort (Γ : List (Int × Int)) (ins : List InD) (n : Nat) : Sm1 := sortT (cxG n Γ ins) 42
theorem libSort_ok (Γ : List (Int × Int)) (ins : List InD) (n : Nat) : Sm1Ok (cxG n Γ ins) 22 (libSort Γ ins n) := fun ρ β s s' w args r v hρ hs h hr => sortT_ok (cx := cxG n Γ ins) sortC_ok (fun _ _ _ => rfl) ρ β s s' w args r v hρ hs h hr
theorem compC_ok : CompC Try.prog 23 := ⟨Try.slices_Compact_int, Try.slices_Compact_int_empty⟩
noncomputable def libComp (Γ : List (Int × Int)) (ins : List InD) (n : Nat) : Sm1 := compT (cxG n Γ ins) 43 44
theorem libComp_ok (Γ : List (Int × Int)) (ins : List InD) (n : Nat) : Sm1Ok (cxG n Γ ins) 23 (libComp Γ ins n) := fun ρ β s s' w args r v hρ hs h hr => compT_ok (cx := cxG n Γ ins) compC_ok (fun _ _ _ => rfl) (fun _ _ _ => rfl) ρ β s s' w args r v hρ hs h hr
noncomputable def libCompK (Γ : List (Int × Int)) (ins : List InD) (n : Nat) : Sm1 := compKT
theorem libCompK_ok (Γ : List (Int × Int)) (ins : List InD) (n : Nat) : Sm1Ok (cxG n Γ ins) 23 (libCompK Γ ins n) := fun ρ β s s' w args r v hρ hs h hr => compKT_ok (cx := cxG n Γ ins) compC_ok ρ β s s' w args r v hρ hs h hr
theorem tab8 (i : Nat) (h : i < Lib.len8tab.size) : (((Lib.len8tab[i]'h).toNat : Nat) : Int) = (Lib.bitLen i : Int) ∧ (Lib.bitLen i : Int) ≤ 8 := by
  have hs := Lib.len8tab_size
  have h1 := Lib.len8_of (i : Int) (by omega) (by omega)
  have h2 := Lib.bitLen_le8' (i : Int) (by omega) (by omega)
  rw [Int.toNat_natCast] at h1 h2
  refine ⟨?_, by omega⟩
  rw [← h1]
  simp [Lib.len8, h]

theorem l24 (x : Int) (h0 : 0 ≤ x) (h1 : x ≤ 4294967295) (h2 : 16777216 ≤ x) (h : (x / 65536 / 256).toNat < Lib.len8tab.size) : wrap64 (24 + wrap64 (((Lib.len8tab[(x / 65536 / 256).toNat]'h).toNat : Nat) : Int)) = (Lib.bitLen x.toNat : Int) := by
  obtain ⟨t1, t2⟩ := tab8 (x / 65536 / 256).toNat h
  rw [t1]
  have e : (x / 65536 / 256).toNat = x.toNat / 16777216 := by omega
  have s := Lib.bitLen_shift24 x.toNat (by omega) (by omega)
  rw [e] at t2 ⊢
  rw [s]
  generalize Lib.bitLen (x.toNat / 16777216) = m at t2
  clear e s t1 h h0 h1 h2
  simp only [wrap64]
  omega

theorem l16 (x : Int) (h0 : 0 ≤ x) (h1 : x ≤ 4294967295) (h2 : 65536 ≤ x) (h : (x / 65536).toNat < Lib.len8tab.size) : wrap64 (16 + wrap64 (((Lib.len8tab[(x / 65536).toNat]'h).toNat : Nat) : Int)) = (Lib.bitLen x.toNat : Int) := by
  obtain ⟨t1, t2⟩ := tab8 (x / 65536).toNat h
  rw [t1]
  have e : (x / 65536).toNat = x.toNat / 65536 := by omega
  have s := Lib.bitLen_shift16 x.toNat (by omega) (by omega)
  rw [e] at t2 ⊢
  rw [s]
  generalize Lib.bitLen (x.toNat / 65536) = m at t2
  clear e s t1 h h0 h1 h2
  simp only [wrap64]
  omega

theorem l8 (x : Int) (h0 : 0 ≤ x) (h1 : x ≤ 4294967295) (h2 : 256 ≤ x) (h : (x / 256).toNat < Lib.len8tab.size) : wrap64 (8 + wrap64 (((Lib.len8tab[(x / 256).toNat]'h).toNat : Nat) : Int)) = (Lib.bitLen x.toNat : Int) := by
  obtain ⟨t1, t2⟩ := tab8 (x / 256).toNat h
  rw [t1]
  have e : (x / 256).toNat = x.toNat / 256 := by omega
  have s := Lib.bitLen_shift8 x.toNat (by omega) (by omega)
  rw [e] at t2 ⊢
  rw [s]
  generalize Lib.bitLen (x.toNat / 256) = m at t2
  clear e s t1 h h0 h1 h2
  simp only [wrap64]
  omega

theorem l0 (x : Int) (h0 : 0 ≤ x) (h1 : x ≤ 4294967295) (h2 : 0 ≤ x) (h : x.toNat < Lib.len8tab.size) : wrap64 (wrap64 (((Lib.len8tab[x.toNat]'h).toNat : Nat) : Int)) = (Lib.bitLen x.toNat : Int) := by
  obtain ⟨t1, t2⟩ := tab8 x.toNat h
  rw [t1]
  generalize Lib.bitLen x.toNat = m at t2
  clear t1 h h0 h1 h2
  simp only [wrap64]
  omega

set_option maxHeartbeats 4000000 in
set_option maxRecDepth 100000 in
theorem len32 (x : Int) (w : World) (h0 : 0 ≤ x) (h1 : x ≤ 4294967295) :
    Calls Try.prog 40 #[.int .u32 x] w fun e w' => e = .returned (.int .i64 (Lib.bitLen x.toNat)) ∧ w' = w := by
  have hs := Lib.len8tab_size
  go_enter Try.func40, Try.ntmps40
  go_wp2
  all_goals first
    | (exfalso; omega)
    | skip
  all_goals (go_ret; refine ⟨congrArg Ending.returned (congrArg (Value.int IntKind.i64) ?_), rfl⟩)
  all_goals first
    | exact l24 x h0 h1 (by omega) _
    | exact l16 x h0 h1 (by omega) _
    | exact l8 x h0 h1 (by omega) _
    | exact l0 x h0 h1 (by omega) _

theorem k56 (x : Int) (h0 : 0 ≤ x) (h1 : x ≤ 18446744073709551615) (h2 : 72057594037927936 ≤ x) (h : (x / 4294967296 / 65536 / 256).toNat < Lib.len8tab.size) (hb : x / 4294967296 / 65536 / 256 ≤ 255) : wrap64 (56 + wrap64 (((Lib.len8tab[(x / 4294967296 / 65536 / 256).toNat]'h).toNat : Nat) : Int)) = (Lib.bitLen x.toNat : Int) := by
  obtain ⟨t1, t2⟩ := tab8 (x / 4294967296 / 65536 / 256).toNat h
  rw [t1]
  have e : (x / 4294967296 / 65536 / 256).toNat = x.toNat / 72057594037927936 := by omega
  have s := Lib.bitLen_shift 56 x.toNat (by omega) (by omega)
  rw [show (2 : Nat) ^ 56 = 72057594037927936 from rfl] at s
  rw [e] at t2 ⊢
  rw [s]
  generalize Lib.bitLen (x.toNat / 72057594037927936) = m at t2
  clear e s t1 h h0 h1 h2
  simp only [wrap64]
  omega

theorem k48 (x : Int) (h0 : 0 ≤ x) (h1 : x ≤ 18446744073709551615) (h2 : 281474976710656 ≤ x) (h : (x / 4294967296 / 65536).toNat < Lib.len8tab.size) (hb : x / 4294967296 / 65536 ≤ 255) : wrap64 (48 + wrap64 (((Lib.len8tab[(x / 4294967296 / 65536).toNat]'h).toNat : Nat) : Int)) = (Lib.bitLen x.toNat : Int) := by
  obtain ⟨t1, t2⟩ := tab8 (x / 4294967296 / 65536).toNat h
  rw [t1]
  have e : (x / 4294967296 / 65536).toNat = x.toNat / 281474976710656 := by omega
  have s := Lib.bitLen_shift 48 x.toNat (by omega) (by omega)
  rw [show (2 : Nat) ^ 48 = 281474976710656 from rfl] at s
  rw [e] at t2 ⊢
  rw [s]
  generalize Lib.bitLen (x.toNat / 281474976710656) = m at t2
  clear e s t1 h h0 h1 h2
  simp only [wrap64]
  omega

theorem k40 (x : Int) (h0 : 0 ≤ x) (h1 : x ≤ 18446744073709551615) (h2 : 1099511627776 ≤ x) (h : (x / 4294967296 / 256).toNat < Lib.len8tab.size) (hb : x / 4294967296 / 256 ≤ 255) : wrap64 (40 + wrap64 (((Lib.len8tab[(x / 4294967296 / 256).toNat]'h).toNat : Nat) : Int)) = (Lib.bitLen x.toNat : Int) := by
  obtain ⟨t1, t2⟩ := tab8 (x / 4294967296 / 256).toNat h
  rw [t1]
  have e : (x / 4294967296 / 256).toNat = x.toNat / 1099511627776 := by omega
  have s := Lib.bitLen_shift 40 x.toNat (by omega) (by omega)
  rw [show (2 : Nat) ^ 40 = 1099511627776 from rfl] at s
  rw [e] at t2 ⊢
  rw [s]
  generalize Lib.bitLen (x.toNat / 1099511627776) = m at t2
  clear e s t1 h h0 h1 h2
  simp only [wrap64]
  omega

theorem k32 (x : Int) (h0 : 0 ≤ x) (h1 : x ≤ 18446744073709551615) (h2 : 4294967296 ≤ x) (h : (x / 4294967296).toNat < Lib.len8tab.size) (hb : x / 4294967296 ≤ 255) : wrap64 (32 + wrap64 (((Lib.len8tab[(x / 4294967296).toNat]'h).toNat : Nat) : Int)) = (Lib.bitLen x.toNat : Int) := by
  obtain ⟨t1, t2⟩ := tab8 (x / 4294967296).toNat h
  rw [t1]
  have e : (x / 4294967296).toNat = x.toNat / 4294967296 := by omega
  have s := Lib.bitLen_shift 32 x.toNat (by omega) (by omega)
  rw [show (2 : Nat) ^ 32 = 4294967296 from rfl] at s
  rw [e] at t2 ⊢
  rw [s]
  generalize Lib.bitLen (x.toNat / 4294967296) = m at t2
  clear e s t1 h h0 h1 h2
  simp only [wrap64]
  omega

theorem k24 (x : Int) (h0 : 0 ≤ x) (h1 : x ≤ 18446744073709551615) (h2 : 16777216 ≤ x) (h : (x / 65536 / 256).toNat < Lib.len8tab.size) (hb : x / 65536 / 256 ≤ 255) : wrap64 (24 + wrap64 (((Lib.len8tab[(x / 65536 / 256).toNat]'h).toNat : Nat) : Int)) = (Lib.bitLen x.toNat : Int) := by
  obtain ⟨t1, t2⟩ := tab8 (x / 65536 / 256).toNat h
  rw [t1]
  have e : (x / 65536 / 256).toNat = x.toNat / 16777216 := by omega
  have s := Lib.bitLen_shift 24 x.toNat (by omega) (by omega)
  rw [show (2 : Nat) ^ 24 = 16777216 from rfl] at s
  rw [e] at t2 ⊢
  rw [s]
  generalize Lib.bitLen (x.toNat / 16777216) = m at t2
  clear e s t1 h h0 h1 h2
  simp only [wrap64]
  omega

theorem k16 (x : Int) (h0 : 0 ≤ x) (h1 : x ≤ 18446744073709551615) (h2 : 65536 ≤ x) (h : (x / 65536).toNat < Lib.len8tab.size) (hb : x / 65536 ≤ 255) : wrap64 (16 + wrap64 (((Lib.len8tab[(x / 65536).toNat]'h).toNat : Nat) : Int)) = (Lib.bitLen x.toNat : Int) := by
  obtain ⟨t1, t2⟩ := tab8 (x / 65536).toNat h
  rw [t1]
  have e : (x / 65536).toNat = x.toNat / 65536 := by omega
  have s := Lib.bitLen_shift 16 x.toNat (by omega) (by omega)
  rw [show (2 : Nat) ^ 16 = 65536 from rfl] at s
  rw [e] at t2 ⊢
  rw [s]
  generalize Lib.bitLen (x.toNat / 65536) = m at t2
  clear e s t1 h h0 h1 h2
  simp only [wrap64]
  omega

theorem k8 (x : Int) (h0 : 0 ≤ x) (h1 : x ≤ 18446744073709551615) (h2 : 256 ≤ x) (h : (x / 256).toNat < Lib.len8tab.size) (hb : x / 256 ≤ 255) : wrap64 (8 + wrap64 (((Lib.len8tab[(x / 256).toNat]'h).toNat : Nat) : Int)) = (Lib.bitLen x.toNat : Int) := by
  obtain ⟨t1, t2⟩ := tab8 (x / 256).toNat h
  rw [t1]
  have e : (x / 256).toNat = x.toNat / 256 := by omega
  have s := Lib.bitLen_shift 8 x.toNat (by omega) (by omega)
  rw [show (2 : Nat) ^ 8 = 256 from rfl] at s
  rw [e] at t2 ⊢
  rw [s]
  generalize Lib.bitLen (x.toNat / 256) = m at t2
  clear e s t1 h h0 h1 h2
  simp only [wrap64]
  omega

theorem k0 (x : Int) (h0 : 0 ≤ x) (h1 : x ≤ 18446744073709551615) (h : x.toNat < Lib.len8tab.size) (hb : x ≤ 255) : wrap64 (wrap64 (((Lib.len8tab[x.toNat]'h).toNat : Nat) : Int)) = (Lib.bitLen x.toNat : Int) := by
  obtain ⟨t1, t2⟩ := tab8 x.toNat h
  rw [t1]
  generalize Lib.bitLen x.toNat = m at t2
  clear t1 h h0 h1
  simp only [wrap64]
  omega

set_option maxHeartbeats 8000000 in
set_option maxRecDepth 100000 in
theorem len64 (x : Int) (w : World) (h0 : 0 ≤ x) (h1 : x ≤ 18446744073709551615) :
    Calls Try.prog 41 #[.int .u64 x] w fun e w' => e = .returned (.int .i64 (Lib.bitLen x.toNat)) ∧ w' = w := by
  have hs := Lib.len8tab_size
  go_enter Try.func41, Try.ntmps41
  go_wp2
  all_goals first
    | (exfalso; omega)
    | skip
  all_goals (go_ret; refine ⟨congrArg Ending.returned (congrArg (Value.int IntKind.i64) ?_), rfl⟩)
  all_goals first
    | exact k56 x h0 h1 (by omega) _ (by omega)
    | exact k48 x h0 h1 (by omega) _ (by omega)
    | exact k40 x h0 h1 (by omega) _ (by omega)
    | exact k32 x h0 h1 (by omega) _ (by omega)
    | exact k24 x h0 h1 (by omega) _ (by omega)
    | exact k16 x h0 h1 (by omega) _ (by omega)
    | exact k8 x h0 h1 (by omega) _ (by omega)
    | exact k0 x h0 h1 _ (by omega)

noncomputable def libLen32 (Γ : List (Int × Int)) (ins : List InD) (n : Nat) : Sm1 := told1 (gLen (cxG n Γ ins))
theorem libLen32_ok (Γ : List (Int × Int)) (ins : List InD) (n : Nat) : Sm1Ok (cxG n Γ ins) 40 (libLen32 Γ ins n) := fun ρ β s s' w args r v hρ hs h hr => told1_ok (cx := cxG n Γ ins) (gLen_ok rfl fun x w h0 h1 => len32 x w h0 h1) ρ β s s' w args r v hρ hs h hr
noncomputable def libLen64 (Γ : List (Int × Int)) (ins : List InD) (n : Nat) : Sm1 := told1 (gLen64 (cxG n Γ ins))
theorem libLen64_ok (Γ : List (Int × Int)) (ins : List InD) (n : Nat) : Sm1Ok (cxG n Γ ins) 41 (libLen64 Γ ins n) := fun ρ β s s' w args r v hρ hs h hr => told1_ok (cx := cxG n Γ ins) (gLen64_ok rfl fun x w h0 h1 => len64 x w h0 h1) ρ β s s' w args r v hρ hs h hr
section
open Go.RowKit Go.Shelf Go.Eng Go.Sort Go.Proofs
attribute [local go_sem] Oper.semAt_some
def cfH (x y : Ht) : Int := if Lib.compareInt x.1 y.1 = 0 then Lib.compareInt x.2.1 y.2.1 else Lib.compareInt x.1 y.1
theorem call_wpIn {n : Nat} {P : Program} {o : Oper} {a : Act} {w : World} {K : Act → World → Prop} {Q : Exit → Act → World → Prop} {f : Nat} {xs : Array Operand} {ts : Array TypeId} {v : Value} {args : Array Value} (hop : o.op = .call { callee := .value (.func f), args := xs, argTypes := ts }) (ha : xs.map a.eval = args)
    (eg : ∀ args w, (callFunc f args).run P w = .ok (.enter f args) w) (h : Calls P f args w fun e w' => e = .returned v ∧ w' = w) (hK : K (a.put o.dst v) w) : o.wpIn Fence.wide n P a w K Q := by
  unfold Oper.wpIn
  refine ⟨fun _ _ => trivial, ?_⟩
  rw [Oper.semAt_plain _ _ _ (by rw [hop]; intro c hc'; cases hc')]
  simp [execOp, hop, resolve, invoke, Deferred.ofValue, Act.eval, ha, eg, Result.andThen]
  refine ⟨by simp [Fence.wide], callsIn_wide.2 (h.mono ?_)⟩
  rintro e w' ⟨rfl, rfl⟩
  exact hK
set_option maxRecDepth 100000 in
set_option maxHeartbeats 1000000 in
theorem or2 (B c : Nat) (x y : Int) (w : World) (h : w.heap[B]? = some (.cells #[.int .i64 x, .int .i64 y] 3 (0, 0))) : Calls Try.prog 27 #[.slice (some ⟨B, 0, none⟩) 2 c] w fun e w' => e = .returned (.int .i64 (if x = 0 then y else x)) ∧ w' = w := by
  have c0 : w.cell? ⟨B, 0, none⟩ = some (.int .i64 x) := by simp [World.cell?, h]
  have c1 : w.cell? ⟨B, 1, none⟩ = some (.int .i64 y) := by simp [World.cell?, h]
  go_enter Try.func27, Try.ntmps27
  go_wp2
  go_loopw [8] (fun v wr => ∃ i : Nat, i ≤ 2 ∧ v = .int .i64 (i : Nat) ∧ wr = w ∧ (0 < i → x = 0) ∧ (1 < i → y = 0)) (fun v _ => 2 - (intOf v).toNat)
  case atStart => exact ⟨0, by omega, rfl, rfl, by omega, by omega⟩
  case round =>
    obtain ⟨i, hi, rfl, rfl, g0, g1⟩ := hrel
    rcases (by omega : i = 0 ∨ i = 1 ∨ i = 2) with rfl | rfl | rfl
    · by_cases hx : x = 0
      · subst hx
        go_wp2
        go_roundw
        case rel => exact ⟨1, by omega, by simp, by simp, by simp, by simp⟩
        case measure => simp [intOf]
      · go_wp2
        go_ret
        first | exact ⟨rfl, rfl⟩ | exact ⟨by simp [hx], rfl⟩
    · have hx := g0 (by omega)
      subst hx
      by_cases hy : y = 0
      · subst hy
        go_wp2
        go_roundw
        case rel => exact ⟨2, by omega, by simp, by simp, by simp, by simp⟩
        case measure => simp [intOf]
      · go_wp2
        go_ret
        first | exact ⟨rfl, rfl⟩ | simp
    · have hx := g0 (by omega)
      have hy := g1 (by omega)
      subst hx hy
      go_wp2
      go_ret
      exact ⟨rfl, rfl⟩
set_option maxRecDepth 100000 in
set_option maxHeartbeats 4000000 in
theorem order_in (x y : Ht) (W : World) : Calls Try.prog 16 #[.agg #[.int .i64 x.1, .int .i64 x.2.1, .int .i64 x.2.2.1, .int .i64 x.2.2.2], .agg #[.int .i64 y.1, .int .i64 y.2.1, .int .i64 y.2.2.1, .int .i64 y.2.2.2]] W fun e w' => e = .returned (.int .i64 (cfH x y)) ∧ ∃ q os', w' = grow (W.drewN q) os' := by
  have e21 : ∀ args w, (callFunc 19 args).run Try.prog w = .ok (.enter 19 args) w := enters_of Try.func19 (by kernel_rfl) rfl
  have e29 : ∀ args w, (callFunc 27 args).run Try.prog w = .ok (.enter 27 args) w := enters_of Try.func27 (by kernel_rfl) rfl
  refine callsIn_wide.1 (callsIn_of_wp (F := Fence.wide) (n := 3) Try.func16 rfl trivial ?_ rfl)
  simp only [Try.ntmps16, List.size_toArray, List.length_cons, List.length_nil, Nat.reduceAdd, Nat.reduceSub, Array.replicate_succ, Array.replicate_zero, List.push_toArray, List.append_toArray, List.nil_append, List.cons_append]
  gi_wp2
  rename_i Q' K hKK
  generalize hWd : ({ ((W.alloc (.cells #[.int .i64 x.1, .int .i64 x.2.1, .int .i64 x.2.2.1, .int .i64 x.2.2.2] 30)).alloc (.cells #[.int .i64 y.1, .int .i64 y.2.1, .int .i64 y.2.2.1, .int .i64 y.2.2.2] 30)) with drawn := ((W.alloc (.cells #[.int .i64 x.1, .int .i64 x.2.1, .int .i64 x.2.2.1, .int .i64 x.2.2.2] 30)).alloc (.cells #[.int .i64 y.1, .int .i64 y.2.1, .int .i64 y.2.2.1, .int .i64 y.2.2.2] 30)).drawn + 1 } : World) = Wd
  have hg : Hid (Wd = grow (W.drewN 1) #[.cells #[.int .i64 x.1, .int .i64 x.2.1, .int .i64 x.2.2.1, .int .i64 x.2.2.2] 30, .cells #[.int .i64 y.1, .int .i64 y.2.1, .int .i64 y.2.2.1, .int .i64 y.2.2.2] 30]) := by
    show _ = _
    rw [← hWd, alloc_eq_grow, alloc_eq_grow, grow_grow]; rfl
  have hb0 : Wd.heap[W.heap.size]? = some (.cells #[.int .i64 x.1, .int .i64 x.2.1, .int .i64 x.2.2.1, .int .i64 x.2.2.2] 30 (0, 0)) := by
    rw [← hWd]; exact (Below.heap_alloc _ _ _ (by simp)).trans (World.alloc_heap_new W _)
  have hb1 : Wd.heap[W.heap.size + 1]? = some (.cells #[.int .i64 y.1, .int .i64 y.2.1, .int .i64 y.2.2.1, .int .i64 y.2.2.2] 30 (0, 0)) := by
    rw [← hWd]; have := World.alloc_heap_new (W.alloc (.cells #[.int .i64 x.1, .int .i64 x.2.1, .int .i64 x.2.2.1, .int .i64 x.2.2.2] 30)) (.cells #[.int .i64 y.1, .int .i64 y.2.1, .int .i64 y.2.2.1, .int .i64 y.2.2.2] 30)
    rwa [World.size_alloc] at this
  generalize W.heap.size = B0 at *
  generalize B0 + 1 = B1 at *
  have c0 : Wd.cell? ⟨B0, 0, none⟩ = some (.int .i64 x.1) := by simp [World.cell?, hb0]
  have c1 : Wd.cell? ⟨B0, 1, none⟩ = some (.int .i64 x.2.1) := by simp [World.cell?, hb0]
  have c2 : Wd.cell? ⟨B1, 0, none⟩ = some (.int .i64 y.1) := by simp [World.cell?, hb1]
  have c3 : Wd.cell? ⟨B1, 1, none⟩ = some (.int .i64 y.2.1) := by simp [World.cell?, hb1]
  clear hb0 hb1

  refine region_mask (by kernel_rfl) (by decide) (fun m a w2 => ∃ t0 t1 t2 t3 t4 t5 t6 t7 t8 t9 t10 t11 u4 : Value, a = { tmps := #[.agg #[.int .i64 x.1, .int .i64 x.2.1, .int .i64 x.2.2.1, .int .i64 x.2.2.2], .agg #[.int .i64 y.1, .int .i64 y.2.1, .int .i64 y.2.2.1, .int .i64 y.2.2.2], .pointer (some ⟨B0, 0, none⟩), .pointer (some ⟨B1, 0, none⟩), u4, t0, t1, t2, t3, t4, t5, t6, t7, t8, t9, t10, t11], defers := [] } ∧ (m.testBit 0 = true → t0 = .pointer (some ⟨B0, 0, none⟩)) ∧ (m.testBit 1 = true → t1 = .int .i64 x.1) ∧ (m.testBit 2 = true → t2 = .pointer (some ⟨B1, 0, none⟩)) ∧ (m.testBit 3 = true → t3 = .int .i64 y.1) ∧ (m.testBit 4 = true → t4 = .int .i64 (Lib.compareInt x.1 y.1)) ∧ (m.testBit 5 = true → t5 = .pointer (some ⟨B0, 1, none⟩)) ∧ (m.testBit 6 = true → t6 = .int .i64 x.2.1) ∧ (m.testBit 7 = true → t7 = .pointer (some ⟨B1, 1, none⟩)) ∧ (m.testBit 8 = true → t8 = .int .i64 y.2.1) ∧ (m.testBit 9 = true → t9 = .int .i64 (Lib.compareInt x.2.1 y.2.1)) ∧
      ((m.testBit 10 = false ∧ m.testBit 11 = false ∧ m.testBit 12 = false ∧ w2 = Wd) ∨
       (m.testBit 10 = true ∧ m.testBit 11 = false ∧ m.testBit 12 = false ∧ w2 = Wd.alloc (.cells #[.int .i64 (Lib.compareInt x.1 y.1), .int .i64 (Lib.compareInt x.2.1 y.2.1)] 3) ∧ t10 = .slice (some ⟨Wd.heap.size, 0, none⟩) 2 2) ∨
       (m.testBit 11 = true ∧ w2 = Wd.alloc (.cells #[.int .i64 (Lib.compareInt x.1 y.1), .int .i64 (Lib.compareInt x.2.1 y.2.1)] 3) ∧ t11 = .int .i64 (cfH x y) ∧ (m.testBit 12 = true → u4 = .int .i64 (cfH x y)))))
    ⟨undef, undef, undef, undef, undef, undef, undef, undef, undef, undef, undef, undef, .int .i64 0, rfl, fun h => by simp at h, fun h => by simp at h, fun h => by simp at h, fun h => by simp at h, fun h => by simp at h, fun h => by simp at h, fun h => by simp at h, fun h => by simp at h, fun h => by simp at h, fun h => by simp at h, .inl ⟨by simp, by simp, by simp, hWd⟩⟩ ?hend ?hstep
  case hend =>
    rintro m a w2 ⟨t0, t1, t2, t3, t4, t5, t6, t7, t8, t9, t10, t11, u4, rfl, h0, h1, h2, h3, h4, h5, h6, h7, h8, h9, hw⟩ hall
    have a11 := hall 11 (by decide)
    have a12 := hall 12 (by decide)
    rcases hw with ⟨_, e, _⟩ | ⟨_, e, _⟩ | ⟨_, rfl, _, h4⟩
    · rw [a11] at e; cases e
    · rw [a11] at e; cases e
    · obtain rfl := h4 a12
      refine hKK _ _ ?_
      gi_wp2
      go_ret
      exact ⟨rfl, 1, _, by rw [hg.out, alloc_eq_grow, grow_grow]⟩
  case hstep =>
    rintro m a w2 ⟨t0, t1, t2, t3, t4, t5, t6, t7, t8, t9, t10, t11, u4, rfl, h0, h1, h2, h3, h4, h5, h6, h7, h8, h9, hw⟩ hD k o ho hk hn
    have po : ∀ {k i : Nat} {p : Prop}, k ≠ i → (m.testBit k = true → p) → ((m ||| (1 <<< i)).testBit k = true → p) := fun hne h hb => h (by rw [qQz] at hb; simpa [hne.symm] using hb)
    have hk17 : k < 13 := (Array.getElem?_eq_some_iff.1 ho).1
    rcases k with _ | _ | _ | _ | _ | _ | _ | _ | _ | _ | _ | _ | _ | k
    · -- 0
      simp only [List.getElem?_toArray, List.getElem?_cons_zero, List.getElem?_cons_succ, Nat.zero_add, Nat.reduceAdd, Option.some.injEq] at ho hk ⊢
      subst ho
      have k10 : m.testBit 10 = false := by
        cases e : m.testBit 10 with
        | false => rfl
        | true =>
          exfalso
          have e0 := hD 10 _ rfl e 4 (by decide)
          have e1 := hD 4 _ rfl e0 1 (by decide)
          have e2 := hD 1 _ rfl e1 0 (by decide)
          rw [hk] at e2; cases e2
      rcases hw with ⟨_, k11, k12, rfl⟩ | ⟨e, _⟩ | ⟨e, _⟩
      · refine ⟨by simp [Region.wanted], fun K hK => ?_⟩
        first | gi_big_move | gi_big_op
        exact hK _ _ ⟨_, _, _, _, _, _, _, _, _, _, _, _, _, rfl, fun _ => rfl, po (by decide) h1, po (by decide) h2, po (by decide) h3, po (by decide) h4, po (by decide) h5, po (by decide) h6, po (by decide) h7, po (by decide) h8, po (by decide) h9, .inl ⟨by rw [qQz, k10]; rfl, by rw [qQz, k11]; rfl, by rw [qQz, k12]; rfl, rfl⟩⟩
      · rw [k10] at e; cases e
      · exact absurd (hD 11 _ rfl e 10 (by decide)) (by rw [k10]; decide)
    · -- 1
      simp only [List.getElem?_toArray, List.getElem?_cons_zero, List.getElem?_cons_succ, Nat.zero_add, Nat.reduceAdd, Option.some.injEq] at ho hk ⊢
      subst ho
      obtain rfl := h0 (hn 0 (by decide))
      have k10 : m.testBit 10 = false := by
        cases e : m.testBit 10 with
        | false => rfl
        | true =>
          exfalso
          have e0 := hD 10 _ rfl e 4 (by decide)
          have e1 := hD 4 _ rfl e0 1 (by decide)
          rw [hk] at e1; cases e1
      rcases hw with ⟨_, k11, k12, rfl⟩ | ⟨e, _⟩ | ⟨e, _⟩
      · refine ⟨by simp [Region.wanted], fun K hK => ?_⟩
        first | gi_big_move | gi_big_op
        exact hK _ _ ⟨_, _, _, _, _, _, _, _, _, _, _, _, _, rfl, fun _ => rfl, fun _ => rfl, po (by decide) h2, po (by decide) h3, po (by decide) h4, po (by decide) h5, po (by decide) h6, po (by decide) h7, po (by decide) h8, po (by decide) h9, .inl ⟨by rw [qQz, k10]; rfl, by rw [qQz, k11]; rfl, by rw [qQz, k12]; rfl, rfl⟩⟩
      · rw [k10] at e; cases e
      · exact absurd (hD 11 _ rfl e 10 (by decide)) (by rw [k10]; decide)
    · -- 2
      simp only [List.getElem?_toArray, List.getElem?_cons_zero, List.getElem?_cons_succ, Nat.zero_add, Nat.reduceAdd, Option.some.injEq] at ho hk ⊢
      subst ho
      have k10 : m.testBit 10 = false := by
        cases e : m.testBit 10 with
        | false => rfl
        | true =>
          exfalso
          have e0 := hD 10 _ rfl e 4 (by decide)
          have e1 := hD 4 _ rfl e0 3 (by decide)
          have e2 := hD 3 _ rfl e1 2 (by decide)
          rw [hk] at e2; cases e2
      rcases hw with ⟨_, k11, k12, rfl⟩ | ⟨e, _⟩ | ⟨e, _⟩
      · refine ⟨by simp [Region.wanted], fun K hK => ?_⟩
        first | gi_big_move | gi_big_op
        exact hK _ _ ⟨_, _, _, _, _, _, _, _, _, _, _, _, _, rfl, po (by decide) h0, po (by decide) h1, fun _ => rfl, po (by decide) h3, po (by decide) h4, po (by decide) h5, po (by decide) h6, po (by decide) h7, po (by decide) h8, po (by decide) h9, .inl ⟨by rw [qQz, k10]; rfl, by rw [qQz, k11]; rfl, by rw [qQz, k12]; rfl, rfl⟩⟩
      · rw [k10] at e; cases e
      · exact absurd (hD 11 _ rfl e 10 (by decide)) (by rw [k10]; decide)
    · -- 3
      simp only [List.getElem?_toArray, List.getElem?_cons_zero, List.getElem?_cons_succ, Nat.zero_add, Nat.reduceAdd, Option.some.injEq] at ho hk ⊢
      subst ho
      obtain rfl := h2 (hn 2 (by decide))
      have k10 : m.testBit 10 = false := by
        cases e : m.testBit 10 with
        | false => rfl
        | true =>
          exfalso
          have e0 := hD 10 _ rfl e 4 (by decide)
          have e1 := hD 4 _ rfl e0 3 (by decide)
          rw [hk] at e1; cases e1
      rcases hw with ⟨_, k11, k12, rfl⟩ | ⟨e, _⟩ | ⟨e, _⟩
      · refine ⟨by simp [Region.wanted], fun K hK => ?_⟩
        first | gi_big_move | gi_big_op
        exact hK _ _ ⟨_, _, _, _, _, _, _, _, _, _, _, _, _, rfl, po (by decide) h0, po (by decide) h1, fun _ => rfl, fun _ => rfl, po (by decide) h4, po (by decide) h5, po (by decide) h6, po (by decide) h7, po (by decide) h8, po (by decide) h9, .inl ⟨by rw [qQz, k10]; rfl, by rw [qQz, k11]; rfl, by rw [qQz, k12]; rfl, rfl⟩⟩
      · rw [k10] at e; cases e
      · exact absurd (hD 11 _ rfl e 10 (by decide)) (by rw [k10]; decide)
    · -- 4
      simp only [List.getElem?_toArray, List.getElem?_cons_zero, List.getElem?_cons_succ, Nat.zero_add, Nat.reduceAdd, Option.some.injEq] at ho hk ⊢
      subst ho
      obtain rfl := h1 (hn 1 (by decide))
      obtain rfl := h3 (hn 3 (by decide))
      have k10 : m.testBit 10 = false := by
        cases e : m.testBit 10 with
        | false => rfl
        | true =>
          exfalso
          have e0 := hD 10 _ rfl e 4 (by decide)
          rw [hk] at e0; cases e0
      rcases hw with ⟨_, k11, k12, rfl⟩ | ⟨e, _⟩ | ⟨e, _⟩
      · refine ⟨by simp [Region.wanted], fun K hK => ?_⟩
        refine call_wpIn (f := 19) (args := #[.int .i64 x.1, .int .i64 y.1]) (v := .int .i64 (Lib.compareInt x.1 y.1)) rfl (by simp [Act.eval]) e21 (Try.cmp_Compare_int x.1 y.1 w2) ?_
        exact hK _ _ ⟨_, _, _, _, _, _, _, _, _, _, _, _, _, rfl, po (by decide) h0, fun _ => rfl, po (by decide) h2, fun _ => rfl, fun _ => rfl, po (by decide) h5, po (by decide) h6, po (by decide) h7, po (by decide) h8, po (by decide) h9, .inl ⟨by rw [qQz, k10]; rfl, by rw [qQz, k11]; rfl, by rw [qQz, k12]; rfl, rfl⟩⟩
      · rw [k10] at e; cases e
      · exact absurd (hD 11 _ rfl e 10 (by decide)) (by rw [k10]; decide)
    · -- 5
      simp only [List.getElem?_toArray, List.getElem?_cons_zero, List.getElem?_cons_succ, Nat.zero_add, Nat.reduceAdd, Option.some.injEq] at ho hk ⊢
      subst ho
      have k10 : m.testBit 10 = false := by
        cases e : m.testBit 10 with
        | false => rfl
        | true =>
          exfalso
          have e0 := hD 10 _ rfl e 9 (by decide)
          have e1 := hD 9 _ rfl e0 6 (by decide)
          have e2 := hD 6 _ rfl e1 5 (by decide)
          rw [hk] at e2; cases e2
      rcases hw with ⟨_, k11, k12, rfl⟩ | ⟨e, _⟩ | ⟨e, _⟩
      · refine ⟨by simp [Region.wanted], fun K hK => ?_⟩
        first | gi_big_move | gi_big_op
        exact hK _ _ ⟨_, _, _, _, _, _, _, _, _, _, _, _, _, rfl, po (by decide) h0, po (by decide) h1, po (by decide) h2, po (by decide) h3, po (by decide) h4, fun _ => rfl, po (by decide) h6, po (by decide) h7, po (by decide) h8, po (by decide) h9, .inl ⟨by rw [qQz, k10]; rfl, by rw [qQz, k11]; rfl, by rw [qQz, k12]; rfl, rfl⟩⟩
      · rw [k10] at e; cases e
      · exact absurd (hD 11 _ rfl e 10 (by decide)) (by rw [k10]; decide)
    · -- 6
      simp only [List.getElem?_toArray, List.getElem?_cons_zero, List.getElem?_cons_succ, Nat.zero_add, Nat.reduceAdd, Option.some.injEq] at ho hk ⊢
      subst ho
      obtain rfl := h5 (hn 5 (by decide))
      have k10 : m.testBit 10 = false := by
        cases e : m.testBit 10 with
        | false => rfl
        | true =>
          exfalso
          have e0 := hD 10 _ rfl e 9 (by decide)
          have e1 := hD 9 _ rfl e0 6 (by decide)
          rw [hk] at e1; cases e1
      rcases hw with ⟨_, k11, k12, rfl⟩ | ⟨e, _⟩ | ⟨e, _⟩
      · refine ⟨by simp [Region.wanted], fun K hK => ?_⟩
        first | gi_big_move | gi_big_op
        exact hK _ _ ⟨_, _, _, _, _, _, _, _, _, _, _, _, _, rfl, po (by decide) h0, po (by decide) h1, po (by decide) h2, po (by decide) h3, po (by decide) h4, fun _ => rfl, fun _ => rfl, po (by decide) h7, po (by decide) h8, po (by decide) h9, .inl ⟨by rw [qQz, k10]; rfl, by rw [qQz, k11]; rfl, by rw [qQz, k12]; rfl, rfl⟩⟩
      · rw [k10] at e; cases e
      · exact absurd (hD 11 _ rfl e 10 (by decide)) (by rw [k10]; decide)
    · -- 7
      simp only [List.getElem?_toArray, List.getElem?_cons_zero, List.getElem?_cons_succ, Nat.zero_add, Nat.reduceAdd, Option.some.injEq] at ho hk ⊢
      subst ho
      have k10 : m.testBit 10 = false := by
        cases e : m.testBit 10 with
        | false => rfl
        | true =>
          exfalso
          have e0 := hD 10 _ rfl e 9 (by decide)
          have e1 := hD 9 _ rfl e0 8 (by decide)
          have e2 := hD 8 _ rfl e1 7 (by decide)
          rw [hk] at e2; cases e2
      rcases hw with ⟨_, k11, k12, rfl⟩ | ⟨e, _⟩ | ⟨e, _⟩
      · refine ⟨by simp [Region.wanted], fun K hK => ?_⟩
        first | gi_big_move | gi_big_op
        exact hK _ _ ⟨_, _, _, _, _, _, _, _, _, _, _, _, _, rfl, po (by decide) h0, po (by decide) h1, po (by decide) h2, po (by decide) h3, po (by decide) h4, po (by decide) h5, po (by decide) h6, fun _ => rfl, po (by decide) h8, po (by decide) h9, .inl ⟨by rw [qQz, k10]; rfl, by rw [qQz, k11]; rfl, by rw [qQz, k12]; rfl, rfl⟩⟩
      · rw [k10] at e; cases e
      · exact absurd (hD 11 _ rfl e 10 (by decide)) (by rw [k10]; decide)
    · -- 8
      simp only [List.getElem?_toArray, List.getElem?_cons_zero, List.getElem?_cons_succ, Nat.zero_add, Nat.reduceAdd, Option.some.injEq] at ho hk ⊢
      subst ho
      obtain rfl := h7 (hn 7 (by decide))
      have k10 : m.testBit 10 = false := by
        cases e : m.testBit 10 with
        | false => rfl
        | true =>
          exfalso
          have e0 := hD 10 _ rfl e 9 (by decide)
          have e1 := hD 9 _ rfl e0 8 (by decide)
          rw [hk] at e1; cases e1
      rcases hw with ⟨_, k11, k12, rfl⟩ | ⟨e, _⟩ | ⟨e, _⟩
      · refine ⟨by simp [Region.wanted], fun K hK => ?_⟩
        first | gi_big_move | gi_big_op
        exact hK _ _ ⟨_, _, _, _, _, _, _, _, _, _, _, _, _, rfl, po (by decide) h0, po (by decide) h1, po (by decide) h2, po (by decide) h3, po (by decide) h4, po (by decide) h5, po (by decide) h6, fun _ => rfl, fun _ => rfl, po (by decide) h9, .inl ⟨by rw [qQz, k10]; rfl, by rw [qQz, k11]; rfl, by rw [qQz, k12]; rfl, rfl⟩⟩
      · rw [k10] at e; cases e
      · exact absurd (hD 11 _ rfl e 10 (by decide)) (by rw [k10]; decide)
    · -- 9
      simp only [List.getElem?_toArray, List.getElem?_cons_zero, List.getElem?_cons_succ, Nat.zero_add, Nat.reduceAdd, Option.some.injEq] at ho hk ⊢
      subst ho
      obtain rfl := h6 (hn 6 (by decide))
      obtain rfl := h8 (hn 8 (by decide))
      have k10 : m.testBit 10 = false := by
        cases e : m.testBit 10 with
        | false => rfl
        | true =>
          exfalso
          have e0 := hD 10 _ rfl e 9 (by decide)
          rw [hk] at e0; cases e0
      rcases hw with ⟨_, k11, k12, rfl⟩ | ⟨e, _⟩ | ⟨e, _⟩
      · refine ⟨by simp [Region.wanted], fun K hK => ?_⟩
        refine call_wpIn (f := 19) (args := #[.int .i64 x.2.1, .int .i64 y.2.1]) (v := .int .i64 (Lib.compareInt x.2.1 y.2.1)) rfl (by simp [Act.eval]) e21 (Try.cmp_Compare_int x.2.1 y.2.1 w2) ?_
        exact hK _ _ ⟨_, _, _, _, _, _, _, _, _, _, _, _, _, rfl, po (by decide) h0, po (by decide) h1, po (by decide) h2, po (by decide) h3, po (by decide) h4, po (by decide) h5, fun _ => rfl, po (by decide) h7, fun _ => rfl, fun _ => rfl, .inl ⟨by rw [qQz, k10]; rfl, by rw [qQz, k11]; rfl, by rw [qQz, k12]; rfl, rfl⟩⟩
      · rw [k10] at e; cases e
      · exact absurd (hD 11 _ rfl e 10 (by decide)) (by rw [k10]; decide)
    · -- 10
      simp only [List.getElem?_toArray, List.getElem?_cons_zero, List.getElem?_cons_succ, Nat.zero_add, Nat.reduceAdd, Option.some.injEq] at ho hk ⊢
      subst ho
      obtain rfl := h4 (hn 4 (by decide))
      obtain rfl := h9 (hn 9 (by decide))
      rcases hw with ⟨_, k11, k12, rfl⟩ | ⟨e, _⟩ | ⟨e, _⟩
      · refine ⟨by simp [Region.wanted], fun K hK => ?_⟩
        first | gi_big_move | gi_big_op
        exact hK _ _ ⟨_, _, _, _, _, _, _, _, _, _, _, _, _, rfl, po (by decide) h0, po (by decide) h1, po (by decide) h2, po (by decide) h3, fun _ => rfl, po (by decide) h5, po (by decide) h6, po (by decide) h7, po (by decide) h8, fun _ => rfl, .inr (.inl ⟨by rw [qQz]; simp, by rw [qQz, k11]; rfl, by rw [qQz, k12]; rfl, rfl, rfl⟩)⟩
      · rw [hk] at e; cases e
      · exact absurd (hD 11 _ rfl e 10 (by decide)) (by rw [hk]; decide)
    · -- 11
      simp only [List.getElem?_toArray, List.getElem?_cons_zero, List.getElem?_cons_succ, Nat.zero_add, Nat.reduceAdd, Option.some.injEq] at ho hk ⊢
      subst ho
      have e10 := hn 10 (by decide)
      rcases hw with ⟨e, _⟩ | ⟨_, _, k12, rfl, rfl⟩ | ⟨e, _⟩
      · rw [e10] at e; cases e
      · refine ⟨by simp [Region.wanted], fun K hK => ?_⟩
        refine call_wpIn (f := 27) (args := #[.slice (some ⟨Wd.heap.size, 0, none⟩) 2 2]) (v := .int .i64 (cfH x y)) rfl (by simp [Act.eval]) e29 (or2 _ _ _ _ _ (World.alloc_heap_new Wd _)) ?_
        exact hK _ _ ⟨_, _, _, _, _, _, _, _, _, _, _, _, _, rfl, po (by decide) h0, po (by decide) h1, po (by decide) h2, po (by decide) h3, po (by decide) h4, po (by decide) h5, po (by decide) h6, po (by decide) h7, po (by decide) h8, po (by decide) h9, .inr (.inr ⟨by rw [qQz]; simp, rfl, rfl, fun h => by rw [qQz, k12] at h; cases h⟩)⟩
      · rw [hk] at e; cases e
    · -- 12
      simp only [List.getElem?_toArray, List.getElem?_cons_zero, List.getElem?_cons_succ, Nat.zero_add, Nat.reduceAdd, Option.some.injEq] at ho hk ⊢
      subst ho
      have e11 := hn 11 (by decide)
      rcases hw with ⟨_, e, _⟩ | ⟨_, e, _⟩ | ⟨_, rfl, rfl, _⟩
      · rw [e11] at e; cases e
      · rw [e11] at e; cases e
      · refine ⟨by simp [Region.wanted], fun K hK => ?_⟩
        first | gi_big_move | gi_big_op
        exact hK _ _ ⟨_, _, _, _, _, _, _, _, _, _, _, _, _, rfl, po (by decide) h0, po (by decide) h1, po (by decide) h2, po (by decide) h3, po (by decide) h4, po (by decide) h5, po (by decide) h6, po (by decide) h7, po (by decide) h8, po (by decide) h9, .inr (.inr ⟨by rw [qQz, e11]; rfl, rfl, rfl, fun _ => rfl⟩)⟩
    · omega

theorem flH_get : ∀ (L : List Ht) (j : Nat), j < L.length * 4 → (flH L)[j]? = some (htV L[j / 4]!)[j % 4]!
  | [], j, h => by simp at h
  | x :: L, j, h => by
    have hx : (htV x).length = 4 := rfl
    unfold flH
    rw [List.map_cons, List.flatten_cons]
    by_cases h4 : j < 4
    · rw [List.getElem?_append_left (by rw [hx]; exact h4), show j / 4 = 0 by omega, show j % 4 = j by omega]
      show (htV x)[j]? = some (htV x)[j]!
      rw [List.getElem?_eq_getElem (by rw [hx]; exact h4), getElem!_pos _ _ (by rw [hx]; exact h4)]
    · rw [List.getElem?_append_right (by rw [hx]; omega), hx]
      have := flH_get L (j - 4) (by simp at h; omega)
      unfold flH at this
      rw [this, show j / 4 = (j - 4) / 4 + 1 by omega, show j % 4 = (j - 4) % 4 by omega]
      rfl
theorem flH_flatK (L : List Ht) : (flatK htV 4 L.toArray).toList = flH L := by
  apply List.ext_getElem?
  intro j
  by_cases h : j < L.length * 4
  · have hs : j < (flatK htV 4 L.toArray).size := by rw [size_flatK]; simpa using h
    rw [flH_get L j h, Array.getElem?_toList, Array.getElem?_eq_getElem hs, ← getElem!_pos (flatK htV 4 L.toArray) j hs, get_flatK htV 4 L.toArray j (by simpa using h)]
    simp
  · rw [List.getElem?_eq_none (l := flH L) (by rw [flH_len]; omega), List.getElem?_eq_none (by rw [Array.length_toList, size_flatK]; simpa using h)]
theorem ltH_of (x y : Ht) : ltOf cfH x y = decide (x.1 < y.1 ∨ (x.1 = y.1 ∧ x.2.1 < y.2.1)) := by
  unfold ltOf cfH Lib.compareInt
  by_cases h1 : x.1 < y.1 <;> by_cases h2 : y.1 < x.1 <;> by_cases h3 : x.2.1 < y.2.1 <;> by_cases h4 : y.2.1 < x.2.1 <;> simp [h1, h2, h3, h4] <;> omega
theorem swoH : SWO (ltOf cfH) where
  irrefl x := by rw [ltH_of]; simp
  trans x y z h1 h2 := by rw [ltH_of] at *; simp at *; omega
  ntrans x y z h1 h2 := by rw [ltH_of] at *; simp at *; omega
theorem holdsH {w : World} {g : Nat} {cur : Array Value} {L : List Ht} (hb : w.heap[g]? = some (.cells cur 30 (0, 0))) (ht : cur.toList.take (L.length * 4) = flH L) : HoldsK htV 4 w g 0 L.toArray := by
  intro j hj
  have hj' : j < L.length * 4 := by simpa using hj
  refine ⟨?_, by simp [World.frozen?, hb]⟩
  have h1 : (cur.toList.take (L.length * 4))[j]? = (flH L)[j]? := by rw [ht]
  rw [List.getElem?_take_of_lt hj', flH_get L j hj', Array.getElem?_toList] at h1
  simp only [World.cell?, hb, Nat.zero_add, Option.isSome_none, Bool.false_eq_true, if_false]
  rw [h1, get_flatK htV 4 L.toArray j (by simpa using hj')]
  simp
theorem sortH {W : World} {base : Nat} {v : Value} {L : List Ht} (h : W.ownsRow base 30 4 v L.length (flH L)) (hl : L.length < 4611686018427387904) : Calls Try.prog 15 #[v, .func (.func 16) #[] #[]] W fun e w' => e = .returned (.tuple #[]) ∧
    ∃ D : List Ht, D.Perm L ∧ (D.Pairwise fun x y => ¬LtH y x) ∧ w'.ownsRow base 30 4 v L.length (flH D) ∧ W.grownBy w' v.ownBlock := by
  rcases h.2 with ⟨rfl, h0⟩ | ⟨g, cap, cur, rfl, hbase, hb, h1, h2, h3, h4⟩
  · have hL : L = [] := List.eq_nil_of_length_eq_zero h0
    subst hL
    refine (AnyF.slices_SortFunc_none Try.srtF none 0 (.func (.func 16) #[] #[]) W).mono ?_
    rintro e w' ⟨rfl, rfl⟩
    exact ⟨rfl, [], .refl _, .nil, World.ownsRow_nil _ _ _ _, ⟨rfl, rfl, rfl, Nat.le_refl _, fun _ _ _ => rfl⟩⟩
  · have hlt := (Array.getElem?_eq_some_iff.1 hb).1
    have hc := AnyQ.slices_SortFunc Try.srtF 4 (by intro w; kernel_rfl) (by intro w; kernel_rfl) htV (fun _ => rfl) (fun x v hv => by simp [htV] at hv; rcases hv with rfl | rfl | rfl | rfl <;> rfl) cfH swoH 16 #[] g 0 cap L.toArray W (enters_of Try.func16 (by kernel_rfl) rfl)
      (fun _ _ _ _ x y => order_in x y _) (holdsH hb h4) hlt (by simpa using hl)
    rw [List.size_toArray] at hc
    refine hc.mono ?_
    rintro e w' ⟨rfl, d', n, os, ⟨hs, _, hp⟩, hso, rfl⟩
    simp only [List.size_toArray] at hs hso hp
    have hd : d'.toList.toArray = d' := by simp
    have hsz : d'.toList.length = L.length := by simpa using hs
    refine ⟨rfl, d'.toList, ?_, ?_, ⟨?_, .inr ⟨g, cap, putCells id 0 (flatK htV 4 d') cur, rfl, hbase, ?_, h1, h2, ?_, ?_⟩⟩, ?_⟩
    · rw [← hs] at hp
      have e2 : L.toArray.extract 0 d'.size = L.toArray := by rw [hs]; simp
      rw [e2] at hp
      simpa using hp
    · rw [List.pairwise_iff_getElem]
      intro i j hi hj hij
      have := hso i j (Nat.zero_le _) hij (by rw [hsz] at hj; exact hj)
      rw [ltH_of] at this
      have a1 : d'[i]! = d'.toList[i] := by rw [getElem!_pos d' i (by simpa using hi)]; simp
      have a2 : d'[j]! = d'.toList[j] := by rw [getElem!_pos d' j (by simpa using hj)]; simp
      rw [a1, a2] at this
      unfold LtH
      simpa using this
    · rw [flH_len, hsz]
    · show (sortWorldK htV 4 W g 0 n d' os).heap[g]? = _
      unfold sortWorldK putRowK
      rw [heap_grow_old _ _ (by simpa using hlt)]
      simp [putRow, mapBlock, Sort.ahead, Array.getElem?_modify, hb, onCells]
    · simp [putCells, h3]
    · rw [← flH_flatK, hd, ← hsz]
      have hcs : L.length * 4 ≤ cur.size := by rw [h3]; omega
      apply List.ext_getElem?
      intro j
      by_cases hj : j < d'.toList.length * 4
      · have hj2 : j < (flatK htV 4 d').size := by rw [size_flatK]; simpa using hj
        rw [List.getElem?_take_of_lt hj, Array.getElem?_toList, Array.getElem?_toList]
        have hj3 : j < cur.size := by rw [hsz] at hj; omega
        simp only [putCells, Array.getElem?_mapIdx, Array.getElem?_eq_getElem hj3, Array.getElem?_eq_getElem hj2, Option.map_some, Nat.zero_le, Nat.zero_add, true_and, Nat.sub_zero, hj2, if_true, id]
        rw [getElem!_pos (flatK htV 4 d') j hj2]
      · rw [List.getElem?_take_eq_none (by omega), List.getElem?_eq_none (by rw [Array.length_toList, size_flatK]; simpa using hj)]
    · show W.grownBy (sortWorldK htV 4 W g 0 n d' os) (some g)
      unfold sortWorldK putRowK
      refine ⟨rfl, rfl, rfl, by simp, fun k hk hne => ?_⟩
      rw [heap_grow_old _ _ (by simpa using hk)]
      have : g ≠ k := fun e => hne (by rw [e])
      simp [putRow, mapBlock, Sort.ahead, Array.getElem?_modify, this]
theorem stoodP : Try.prog.stoodInHeld 41 = false := by kernel_rfl
theorem partP (w : World) (p a : Int) : (part 3 #[.int .i64 p, .int .i64 a] 0).run Try.prog w = .ok (.int .i64 p) w ∧ (part 3 #[.int .i64 p, .int .i64 a] 1).run Try.prog w = .ok (.int .i64 a) w := ⟨by kernel_rfl, by kernel_rfl⟩
theorem eqI (w : World) (d : Nat) (a b : Int) : (Op.equalIn (d + 1) 3 (.int .i64 a) (.int .i64 b)).run Try.prog w = .ok (a == b) w := by
  have u3 : ∀ w, _ := run_underlying Try.underlying3
  simp [Op.equalIn, u3]
theorem eqP' (w : World) (d : Nat) (p a p' a' : Int) : (Op.equalIn (d + 1 + 1) 41 (.agg #[.int .i64 p, .int .i64 a]) (.agg #[.int .i64 p', .int .i64 a'])).run Try.prog w = .ok (decide (p = p' ∧ a = a')) w := by
  have u41 := run_underlying (w := w) Try.underlying41
  rw [Op.equalIn]
  simp only [Sem.run_bind, u41, Result.andThen_ok, run_program, stoodP]
  rw [← Array.forIn_toList]
  simp [partP, eqI]
  by_cases h : p = p' <;> by_cases h2 : a = a' <;> simp [h, h2, eqI]
theorem eqP (w : World) (p a p' a' : Int) : (Op.equal 41 (.agg #[.int .i64 p, .int .i64 a]) (.agg #[.int .i64 p', .int .i64 a'])).run Try.prog w = .ok (decide (p = p' ∧ a = a')) w := eqP' w 9998 p a p' a'
theorem chkP (w : World) (em : Bool) (p a : Int) : (Instr.checkKey em 10000 41 (.agg #[.int .i64 p, .int .i64 a])).run Try.prog w = .ok () w := by kernel_rfl

theorem plcT : PlcT Try.prog 39 41 43 := ⟨Try.underlying39, ⟨_, Try.underlying41⟩, eqP, chkP, fun w => by kernel_rfl⟩
abbrev encK : Int × Int → Array Value := fun x => #[.agg #[.int .i64 x.1, .int .i64 x.2]]
def keyH (x : Ht) : Int × Int := (x.1, x.2.1)
set_option maxRecDepth 100000 in
set_option maxHeartbeats 2000000 in
theorem keys1P (F : Fence) (n : Nat) (h26 : F.fn 24) (hro : F.round = none) (hn : 1 ≤ n) (l Bm b : Nat) (L : List Ht) (J Jx : List (Int × Int) → World → Prop) (W : World) (hJ : AbidesFrom W.heap.size J) 
    (hY : ∀ pre x W, J pre W → pre.length < L.length → YieldAt F (n - 1) Try.prog l (encK x) W fun e W' =>
      (e = .returned (.bool true) ∧ J (pre ++ [x]) W' ∧ KeepsWalks W W') ∨ (e = .returned (.bool false) ∧ Jx (pre ++ [x]) W'))
    (hm : W.cell? ⟨Bm, 0, none⟩ = some (.map (some b))) (hb : W.heap[b]? = some (.map (hotF 0 L).toArray L.length)) (h0 : J [] W) :
    CallsIn F n Try.prog 24 #[.func (.yield l) #[] #[], .pointer (some ⟨Bm, 0, none⟩)] W fun e W' => (∃ v, e = .returned v) ∧ ((∃ ks, ks.Perm (L.map keyH) ∧ J ks W') ∨ (∃ pre, True ∧ Jx pre W')) := by
  refine callsIn_of_wp Try.func24 rfl h26 ?_ hro
  simp only [Try.ntmps24, List.size_toArray, List.length_cons, List.length_nil, Nat.reduceAdd, Nat.reduceSub, Array.replicate_succ, Array.replicate_zero, List.push_toArray, List.append_toArray, List.nil_append, List.cons_append]
  gi_wp2_with (first
    | (gi_at_range; refine wpListIn_range_hot _ rfl _ 39 rfl 41 43 Try.underlying39 L b rfl hb ?_; intro w0 hrg0 hg0 hs0)
    | gi_in)
  go_frame
  gi_loopw [3] (fun _ wr => ∃ (seen : List Nat), RngH wr L b W.heap.size seen ∧ J (seen.map fun i => keyH (L.getD i (0, 0, 0, 0))) wr)
    (fun _ wr => rngLeft wr W.heap.size L.length)
  case atStart =>
    exact ⟨[], hrg0, hJ [] W w0 none h0 hg0 (fun r e => by cases e)⟩
  case round =>
    obtain ⟨seen, hrg, hJs⟩ := hrel
    gi_wp2_with (first
      | (gi_at_next; refine wpListIn_next_hot _ rfl _ rfl L b W.heap.size seen rfl hrg ?_ ?_)
      | gi_in)
    · intro hall
      gi_wp2
      go_end0
      refine ⟨⟨_, rfl⟩, .inl ⟨_, ?_, hJs⟩⟩
      refine ((Go.Eng.RngH.all hrg hall).map _).trans ?_
      have e : (List.range L.length).map (fun i => keyH (L.getD i (0, 0, 0, 0))) = L.map keyH := by
        refine List.ext_getElem (by simp) fun i h1 h2 => ?_
        simp at h1
        simp [List.getD, List.getElem?_eq_getElem h1]
      rw [e]
    · intro i p a t c w2 hxi hns hrg2 hg2 hs2 hen
      have hJ2 := hJ _ wr w2 (some W.heap.size) hJs hg2 (fun r e => by cases e; exact ⟨Nat.le_refl _, _, hrg.2.1, rfl⟩)
      have hrgA := Go.Eng.RngH.alloc hrg2 (.cells #[Value.int .i64 p, .int .i64 a] 41)
      have hJA := hJ _ w2 (w2.alloc (.cells #[Value.int .i64 p, .int .i64 a] 41)) none hJ2 (World.grownBy_alloc w2 _ none) (fun r e => by cases e)
      have hpl : (seen.map fun i => keyH (L.getD i (0, 0, 0, 0))).length < L.length := by
        have h1 := Go.Eng.RngH.len hrg2
        simp at h1 ⊢; omega
      obtain ⟨fn, tmps, assign, body, hy, hR⟩ := hY _ (p, a) _ hJA hpl
      dsimp only [encK] at hy
      have hen1 := hen
      clear hs2
      gi_wp2
      refine hR.mono ?_
      rintro e W3 (⟨rfl, hJ3, hk3⟩ | ⟨rfl, hJx3⟩)
      · have hrg3 : RngH W3 L b W.heap.size (seen ++ [i]) := ⟨hk3.same _ _ hrgA.1 rfl, hk3.same _ _ hrgA.2.1 rfl, hrgA.2.2⟩
        gi_wp2
        go_roundw
        case rel => exact ⟨seen ++ [i], hrg3, by simpa [keyH, hxi] using hJ3⟩
        case measure =>
          rw [Go.Eng.RngH.left hrg3, Go.Eng.RngH.left hrg]
          simp at hpl ⊢; omega
      · gi_wp2
        refine bodyPost_ret (results_none rfl _ _ _) rfl ?_
        exact ⟨⟨_, rfl⟩, .inr ⟨_, trivial, hJx3⟩⟩
set_option maxHeartbeats 1000000 in
theorem keysP_in (F : Fence) (n : Nat) (h : F.fn 14) (hro : F.round = none) (mb : Option Nat) (w : World) :
    CallsIn F n Try.prog 14 #[.map mb] w fun e w' => e = .returned (.func (.func 24) #[] #[.pointer (some ⟨w.heap.size, 0, none⟩)]) ∧ w' = w.alloc (.cells #[.map mb] 39) := by
  refine callsIn_of_wp Try.func14 rfl h ?_ hro
  simp only [Try.ntmps14, List.size_toArray, List.length_cons, List.length_nil, Nat.reduceAdd, Nat.reduceSub, Array.replicate_succ, Array.replicate_zero, List.push_toArray, List.append_toArray, List.nil_append, List.cons_append]
  gi_wp2
  go_ret
  exact ⟨rfl, rfl⟩
theorem keysP_stops (F : Fence) (n : Nat) (h26 : F.fn 24) (hro : F.round = none) (hn : 1 ≤ n) (Bm b : Nat) (L : List Ht) (w : World) (hBm : Bm < w.heap.size) (hm : w.cell? ⟨Bm, 0, none⟩ = some (.map (some b))) (hb : w.heap[b]? = some (.map (hotF 0 L).toArray L.length)) :
    SeqStopsK F n Try.prog 24 #[.pointer (some ⟨Bm, 0, none⟩)] encK KeepsWalks (fun ks => ks.Perm (L.map keyH)) (fun _ => True) L.length w := fun l J Jx W hW hJ _ hY h0 =>
  keys1P F n h26 hro hn l Bm b L J Jx W hJ hY ((hW.cell (p := ⟨Bm, 0, none⟩) hBm).trans hm) ((hW.block b (Array.getElem?_eq_some_iff.1 hb).1).trans hb) h0
theorem info38 : (Try.prog.info? 30).map (fun i => (i.zero, i.size, i.bytes)) = some (some (.agg #[.int .i64 0, .int .i64 0, .int .i64 0, .int .i64 0]), 4, 32) := by kernel_rfl
theorem cells4 (W : World) (a b c d : Int) : ∀ (j : Nat) (u : Value), [Value.int .i64 a, .int .i64 b, .int .i64 c, .int .i64 d][j]? = some u → (W.alloc (.cells #[.int .i64 a, .int .i64 b, .int .i64 c, .int .i64 d] 30)).cell? (Addr.add ⟨W.heap.size, 0, none⟩ j) = some u := fun j u hj => by
  have hb : (W.alloc (.cells #[.int .i64 a, .int .i64 b, .int .i64 c, .int .i64 d] 30)).heap[W.heap.size]? = _ := World.alloc_heap_new W _
  rcases j with _ | _ | _ | _ | j <;> simp [Addr.add] at hj ⊢ <;> simp [World.cell?, hb, hj]
def colV (L : List Ht) (ks : List (Int × Int)) : List Value := (ks.map fun k => htV (colH L k)).flatten
def Box2 (W : World) (B : Nat) (p a : Int) : Prop := W.heap[B]? = some (.cells #[.int .i64 p, .int .i64 a] 41 (0, 0))
theorem Box2.cell {W : World} {B : Nat} {p a : Int} (h : Box2 W B p a) : W.cell? ⟨B, 0, none⟩ = some (.int .i64 p) ∧ W.cell? ⟨B, 1, none⟩ = some (.int .i64 a) := by
  constructor <;> simp [World.cell?, show W.heap[B]? = _ from h]
theorem Box2.kept {W W' : World} {row : Option Nat} {B : Nat} {p a : Int} (h : Box2 W B p a) (hg : W.grownBy W' row) (hne : some B ≠ row) : Box2 W' B p a := (hg.block B (Array.getElem?_eq_some_iff.1 h).1 hne).trans h
theorem Box2.new (W : World) (p a : Int) : Box2 (W.alloc (.cells #[.int .i64 p, .int .i64 a] 41)) W.heap.size p a := World.alloc_heap_new W _
theorem box2_own {β : Type} (B : Nat) (p a : Int) : Own (fun (_ : β) W => Box2 W B p a) := fun s X Y row hs hg hrow =>
  hs.kept hg (fun e' => by obtain ⟨o, ho, hc⟩ := hrow B e'.symm; rw [show X.heap[B]? = _ from hs] at ho; cases ho; cases hc)
theorem wrapEq (x : Int) : IntKind.i64.wrap x = wrap64 x := by first | rfl | (unfold wrap64; rw [IntKind.wrap_i64]) | (unfold wrap64; simp [IntKind.wrap_i64])
theorem cellLt {w : World} {a : Addr} {v : Value} (h : w.cell? a = some v) : a.block < w.heap.size := by
  rcases Nat.lt_or_ge a.block w.heap.size with h1 | h1
  · exact h1
  · unfold World.cell? at h
    rw [Array.getElem?_eq_none h1] at h
    simp at h
set_option maxRecDepth 100000 in
set_option maxHeartbeats 4000000 in
theorem rows_in (F : Fence) (n : Nat) (h6 : F.fn 5) (h16 : F.fn 14) (h17 : F.fn 15) (h26 : F.fn 24) (hFw : ∀ {f : Nat} {args : Array Value} {w : World} {R : Ending → World → Prop}, Calls Try.prog f args w R → CallsIn F (n - 1) Try.prog f args w R) (hro : F.round = none) (hn : 3 ≤ n) (oa : Option Addr) (m c : Nat) (q : Int) (w : World) (hc : ∀ (j : Nat) u, (rowV mk3 q m)[j]? = some u → ∃ a, oa = some a ∧ w.cell? (a.add j) = some u) (hm : m ≤ 1000000) :
    CallsIn F n Try.prog 5 #[.slice oa m c] w fun e w' => ∃ v', e = .returned v' ∧ w'.ownsRow w.heap.size 30 4 v' (hrwN q m).toNat (rowV ht4 (hrwZ q m) (hrwN q m).toNat) ∧ Below w.heap.size w w' := by
  have h1 : 1 ≤ n := by omega
  obtain ⟨i0, hi0, hz0, hz1, hz2⟩ := info_parts info38
  have hmm := @run_makeMap Try.prog
  refine callsIn_of_wp_marks Try.func5 rfl h6 ?_ hro
  simp only [Try.ntmps5, List.size_toArray, List.length_cons, List.length_nil, Nat.reduceAdd, Nat.reduceSub, Array.replicate_succ, Array.replicate_zero, List.push_toArray, List.append_toArray, List.nil_append, List.cons_append]
  gi_wp2
  gi_loopw [13] (fun v wr => ∃ i : Nat, i ≤ m ∧ v = .int .i64 (i : Nat) ∧ wr.heap[w.heap.size]? = some (.map (hotF 0 (hotL q i)).toArray (hotL q i).length) ∧ Boxed wr (w.heap.size + 1) 39 (.map (some w.heap.size)) ∧ Below w.heap.size w wr)
    (fun v _ => m - (intOf v).toNat)
  case atStart =>
    have bM := Boxed.new (w.alloc (.map #[] 0)) 39 (.map (some w.heap.size))
    rw [World.size_alloc] at bM
    refine ⟨0, Nat.zero_le _, rfl, ?_, bM, ?_⟩
    · exact (Below.heap_alloc _ _ _ (by simp)).trans (World.alloc_heap_new w _)
    · exact ((Below.refl _ w).alloc (Nat.le_refl _) _).alloc (by simp) _
  case round =>
    obtain ⟨i, him, rfl, hb, bM, hB⟩ := hrel
    have hcl := bM.cell
    by_cases hi : i < m
    · have hj : ∀ k : Nat, k < 3 → (rowV mk3 q m)[i * 3 + k]? = some (.int .i64 (IntKind.wrap .i64 (rdZ (rdZ q i) k))) := fun k hk => by
        rw [show (3 : Nat) = mk3.length from rfl, rowV_get mk3 q hi (by simpa using hk)]
        rcases k with _ | _ | _ | k
        · rfl
        · rfl
        · rfl
        · omega
      obtain ⟨a, rfl, hc0⟩ := hc _ _ (hj 0 (by omega))
      obtain ⟨_, e1, hc1⟩ := hc _ _ (hj 1 (by omega)); cases e1
      obtain ⟨_, e2, hc2⟩ := hc _ _ (hj 2 (by omega)); cases e2
      have hblk : ∀ k, (a.add k).block = a.block := fun k => by unfold Addr.add; split <;> rfl
      have hlt : ∀ k, (a.add k).block < w.heap.size := fun k => by
        rw [hblk, ← hblk (i * 3 + 0)]
        exact cell_lt hc0
      replace hc0 := (hB.cell (hlt _)).trans hc0
      replace hc1 := (hB.cell (hlt _)).trans hc1
      replace hc2 := (hB.cell (hlt _)).trans hc2
      have ha : ∀ k, 0 < k → a.add (i * 3 + k) = ⟨a.block, (a.add (i * 3)).off + k, none⟩ := fun k hk => by
        unfold Addr.add
        rw [if_neg (by omega)]
        by_cases h0 : i * 3 = 0
        · simp [h0]
        · simp [h0, Nat.add_assoc]
      rw [Nat.add_zero] at hc0
      rw [ha 1 (by omega)] at hc1
      rw [ha 2 (by omega)] at hc2
      have hnx : hotL q (i + 1) = setM (IntKind.wrap .i64 (rdZ (rdZ q i) 0)) (IntKind.wrap .i64 (rdZ (rdZ q i) 1)) (IntKind.wrap .i64 ((getM (IntKind.wrap .i64 (rdZ (rdZ q i) 0)) (IntKind.wrap .i64 (rdZ (rdZ q i) 1)) (hotL q i)).1 + 1))
        (IntKind.wrap .i64 ((getM (IntKind.wrap .i64 (rdZ (rdZ q i) 0)) (IntKind.wrap .i64 (rdZ (rdZ q i) 1)) (hotL q i)).2 + IntKind.wrap .i64 (rdZ (rdZ q i) 2))) (hotL q i) := rfl
      clear hj hc
      generalize IntKind.wrap .i64 (rdZ (rdZ q (i : Nat)) ((0 : Nat) : Int)) = xp at *
      generalize IntKind.wrap .i64 (rdZ (rdZ q (i : Nat)) ((1 : Nat) : Int)) = xa at *
      generalize IntKind.wrap .i64 (rdZ (rdZ q (i : Nat)) ((2 : Nat) : Int)) = xc at *
      have hnx2 : ∀ (L : List Ht), L = hotL q i → True := fun _ _ => trivial
      generalize hgt : (getM xp xa (hotL q i)).1 = gt at *
      generalize hgc : (getM xp xa (hotL q i)).2 = gc at *
      generalize hL : hotL q i = L at *
      have A : Hid (hotL q (i + 1) = setM xp xa (IntKind.wrap .i64 (gt + 1)) (IntKind.wrap .i64 (gc + xc)) L) := hnx
      clear hnx
      have hc2' := (bM.alloc (.cells #[.int .i64 xp, .int .i64 xa, .int .i64 xc] 25)).alloc (.cells #[.int .i64 xp, .int .i64 xa] 41)
      have hc3' := hc2'.alloc (.cells #[.int .i64 gt, .int .i64 gc] 43)
      have hl2 := hc2'.cell
      have hl3 := hc3'.cell
      have hbl := (Array.getElem?_eq_some_iff.1 hb).1
      have hb2 := (Below.heap_alloc (wr.alloc (.cells #[.int .i64 xp, .int .i64 xa, .int .i64 xc] 25)) (.cells #[.int .i64 xp, .int .i64 xa] 41) _ (by simp; omega)).trans ((Below.heap_alloc wr (.cells #[.int .i64 xp, .int .i64 xa, .int .i64 xc] 25) _ hbl).trans hb)
      have hb3 := (Below.heap_alloc ((wr.alloc (.cells #[.int .i64 xp, .int .i64 xa, .int .i64 xc] 25)).alloc (.cells #[.int .i64 xp, .int .i64 xa] 41)) (.cells #[.int .i64 gt, .int .i64 gc] 43) _ (by simp; omega)).trans hb2
      have hB3 := (((hB.alloc hB.size (.cells #[.int .i64 xp, .int .i64 xa, .int .i64 xc] 25)).alloc (by have := hB.size; simp; omega) (.cells #[.int .i64 xp, .int .i64 xa] 41))).alloc (by have := hB.size; simp; omega) (.cells #[.int .i64 gt, .int .i64 gc] 43)
      have Ab := (⟨hb2, hb3⟩ : Hid _ ∧ Hid _)
      clear hb2 hb3
      gi_wp2_with (first
        | (gi_at_lookup; refine wpListIn_lookup_hot plcT _ rfl _ _ rfl w.heap.size L rfl Ab.1.out xp xa rfl ?_; rw [hgt, hgc])
        | (gi_at_mapUpdate; refine wpListIn_mapUpdate_hot plcT _ rfl _ _ _ rfl w.heap.size L rfl Ab.2.out xp xa _ _ rfl rfl ?_; intro w1 hb1 hg1 hs1)
        | gi_in)
      clear hs1
      gi_wp2
      go_roundw
      case rel =>
        refine ⟨i + 1, hi, ?_, ?_, hc3'.kept hg1 (by simp), hB3.grown hg1 hB3.size (fun k e => by cases e; exact Nat.le_refl _)⟩
        · simp
        · rw [A.out, wrapEq, wrapEq]; exact hb1
      case measure =>
        show m - (intOf (Value.int .i64 ((i + 1 : Nat) : Int))).toNat < m - (intOf (Value.int .i64 (i : Nat))).toNat
        simp only [intOf, Int.toNat_natCast]
        omega
    · have : i = m := by omega
      subst this
      have hcl2 := (bM.alloc (.cells #[.slice none 0 0] 26)).cell
      gi_wp2_with (gi_at_call 14; refine (keysP_in F (n - 1) h16 hro _ _).mono ?_; rintro e w' ⟨rfl, rfl⟩)
      have bO := (Boxed.new wr 26 (.slice none 0 0)).alloc (.cells #[.map (some w.heap.size)] 39)
      have bK := Boxed.new (wr.alloc (.cells #[.slice none 0 0] 26)) 39 (.map (some w.heap.size))
      have bM2 := (bM.alloc (.cells #[.slice none 0 0] 26)).alloc (.cells #[.map (some w.heap.size)] 39)
      have hbl := (Array.getElem?_eq_some_iff.1 hb).1
      have hb2 := (Below.heap_alloc (wr.alloc (.cells #[.slice none 0 0] 26)) (.cells #[.map (some w.heap.size)] 39) _ (by simp; omega)).trans ((Below.heap_alloc wr (.cells #[.slice none 0 0] 26) _ hbl).trans hb)
      have hB2 := (hB.alloc hB.size (.cells #[.slice none 0 0] 26)).alloc (by have := hB.size; simp; omega) (.cells #[.map (some w.heap.size)] 39)
      have hsz : ((wr.alloc (.cells #[.slice none 0 0] 26)).alloc (.cells #[.map (some w.heap.size)] 39)).heap.size = wr.heap.size + 2 := by simp
      rw [World.size_alloc] at bK
      have hNd := hot_nd q i
      have hLl := hot_len q i
      have Z : Hid (hotL q i = hotL q i) := rfl
      generalize hLe : hotL q i = L at hb2 hNd hLl
      generalize hW0 : (wr.alloc (.cells #[.slice none 0 0] 26)).alloc (.cells #[.map (some w.heap.size)] 39) = W0 at *
      refine wpIn_rangeFunc_ownH hro h1 (gf := 24) (lb := #[.pointer (some ⟨wr.heap.size + 1, 0, none⟩)]) rfl h26 (enters_of Try.func24 (by kernel_rfl) rfl)
        (keysP_stops F (n - 1) h26 hro (by omega) (wr.heap.size + 1) w.heap.size L W0 (by omega) bK.cell hb2) walksK_t walksK_b (Below.refl _ _) (fun _ => rfl)
        (fun pre W => ((∃ v, Boxed W wr.heap.size 26 v ∧ W.ownsRow w.heap.size 30 4 v pre.length (colV L pre) ∧ (v = .slice none 0 0 ↔ pre = [])) ∧ Boxed W (w.heap.size + 1) 39 (.map (some w.heap.size)) ∧ W.heap[w.heap.size]? = some (.map (hotF 0 L).toArray L.length)) ∧ Below w.heap.size w W)
        (fun _ _ _ => False)
        (OwnFrom.and (OwnFrom.and (Own.from (holdsRow_own w.heap.size wr.heap.size 26 30 4 (fun pre : List (Int × Int) => pre.length) (fun pre => colV L pre) (fun pre v => v = .slice none 0 0 ↔ pre = [])) _)
          (OwnFrom.and (Own.from (boxed_own (w.heap.size + 1) 39 (fun _ => .map (some w.heap.size))) _) (fun s X Y row hs hg hrow => (hg.block _ (Array.getElem?_eq_some_iff.1 hs).1 (fun e => by have := (hrow _ e.symm).1; omega)).trans hs)))
          (ownFrom_below (Nat.le_refl _) (by omega)))
        (fun _ _ _ _ _ hs _ _ => hs)
        ⟨⟨⟨_, bO, World.ownsRow_nil _ _ _ _, by simp⟩, bM2, hb2⟩, hB2⟩
        (fun x a' W => ∃ Bx, wr.heap.size < Bx ∧ Box2 W Bx x.1 x.2 ∧ a' = { tmps := #[.slice oa i c, undef, .slice none 0 0, .pointer (some ⟨w.heap.size + 1, 0, none⟩), undef, u5, u6, u7, .pointer (some ⟨wr.heap.size, 0, none⟩), .pointer (some ⟨Bx, 0, none⟩), .map (some w.heap.size), .slice oa i c, .int .i64 (i : Nat), .int .i64 (i : Nat), .bool false, u15, u16, u17, u18, u19, u20, u21, u22, u23, u24, u25, u26, u27, u28, u29, u30, u31, u32, u33, u34, u35, u36, .map (some w.heap.size), .func (.func 24) #[] #[.pointer (some ⟨wr.heap.size + 1, 0, none⟩)], .agg #[.int .i64 x.1, .int .i64 x.2], undef, undef, undef, undef, undef, undef, undef, undef, undef, undef, undef, undef, undef, undef, undef, undef, undef, undef, undef], defers := [] }) (fun x a' => fun s X Y row ⟨Bx, g1, g2, g3⟩ hg hrow => ⟨Bx, g1, (Own.from (box2_own (β := Unit) Bx x.1 x.2) _) () X Y row g2 hg hrow, g3⟩) ?assign ?body ?done ?stop
      case assign =>
        intro l pre x W K hI hK
        gi_wp2
        obtain ⟨⟨⟨v, hv, hrow, hnil⟩, hbM, hbm⟩, hBW⟩ := hI
        refine hK _ _ ((KeepsOthers.alloc _ _).from _) (KeepsWalks.alloc _ _) ⟨⟨⟨v, hv.alloc _, hrow.alloc _, hnil⟩, hbM.alloc _, (Below.heap_alloc _ _ _ (Array.getElem?_eq_some_iff.1 hbm).1).trans hbm⟩, hBW.alloc hBW.size _⟩ ⟨W.heap.size, ?_, Box2.new W _ _, rfl⟩
        exact hv.lt
      case body =>
        rintro l pre x a' W hl ⟨r, hr⟩ ⟨⟨⟨v, hv, hrow, hnil⟩, hbM, hbm⟩, hBW⟩ ⟨Bx, hBx, hX, rfl⟩ hlt
        have c1 := hv.cell
        have c2 := hX.cell.1
        have c3 := hX.cell.2
        have c4 := hbM.cell
        obtain ⟨xp, xa⟩ := x
        generalize hgt : (getM xp xa L).1 = gt at *
        generalize hgc : (getM xp xa L).2 = gc at *
        gi_wp2
        have hsw : w.heap.size ≤ wr.heap.size := hB.size
        have hpn : pre.length < i := by omega
        generalize hWd : ({ W with drawn := W.drawn + 1 } : World) = Wd
        have kd0 : KeepsOthers W Wd := by rw [← hWd]; exact ⟨Nat.le_refl _, fun _ _ h _ => h⟩
        have kd2 : Below w.heap.size W Wd := by rw [← hWd]; exact (Below.refl _ W).drew
        have hvd : Boxed Wd wr.heap.size 26 v := by rw [← hWd]; exact hv
        have hXd : Box2 Wd Bx xp xa := by rw [← hWd]; exact hX
        have hMd : Boxed Wd (w.heap.size + 1) 39 (.map (some w.heap.size)) := by rw [← hWd]; exact hbM
        have hmd : Wd.heap[w.heap.size]? = some (.map (hotF 0 L).toArray L.length) := by rw [← hWd]; exact hbm
        have hrd : Wd.ownsRow w.heap.size 30 4 v pre.length (colV L pre) := by rw [← hWd]; exact hrow
        have hWs : w.heap.size ≤ Wd.heap.size := by rw [← hWd]; exact hBW.size
        have hlk2 : (Instr.lookup 39 (.map (some w.heap.size)) (.agg #[.int .i64 xp, .int .i64 xa]) false).run Try.prog Wd = .ok (.agg #[.int .i64 gt, .int .i64 gc]) Wd := by
          have := look_hot plcT Wd w.heap.size L hmd xp xa
          rw [hgt, hgc] at this; exact this
        clear c1 c2 c3 c4
        have c1 := hvd.cell
        have c2 := hXd.cell.1
        have c3 := hXd.cell.2
        have c4 := hMd.cell
        have c5 := (hvd.alloc (.cells #[.int .i64 xp, .int .i64 xa, .int .i64 gt, .int .i64 gc] 30)).cell
        refine region_mask (by kernel_rfl) (by decide) (fun m a w2 => ∃ t0 t1 t2 t3 t4 t5 t6 t7 t8 t9 t10 t11 t12 t13 t14 t15 : Value, a = { tmps := #[.slice oa i c, undef, .slice none 0 0, .pointer (some ⟨w.heap.size + 1, 0, none⟩), undef, u5, u6, u7, .pointer (some ⟨wr.heap.size, 0, none⟩), .pointer (some ⟨Bx, 0, none⟩), .map (some w.heap.size), .slice oa i c, .int .i64 (i : Nat), .int .i64 (i : Nat), .bool false, u15, u16, u17, u18, u19, u20, u21, u22, u23, u24, u25, u26, u27, u28, u29, u30, u31, u32, u33, u34, u35, u36, .map (some w.heap.size), .func (.func 24) #[] #[.pointer (some ⟨wr.heap.size + 1, 0, none⟩)], .agg #[.int .i64 xp, .int .i64 xa], t0, t1, t2, t3, t4, t5, t6, t7, t8, t9, t10, t11, t12, t13, t14, t15, undef, undef, undef], defers := [] } ∧ (m.testBit 0 = true → t0 = v) ∧ (m.testBit 1 = true → t1 = .pointer (some ⟨Bx, 0, none⟩)) ∧ (m.testBit 2 = true → t2 = .int .i64 xp) ∧ (m.testBit 3 = true → t3 = .pointer (some ⟨Bx, 1, none⟩)) ∧ (m.testBit 4 = true → t4 = .int .i64 xa) ∧ (m.testBit 5 = true → t5 = .map (some w.heap.size)) ∧ (m.testBit 6 = true → t6 = .agg #[.int .i64 xp, .int .i64 xa]) ∧ (m.testBit 7 = true → t7 = .agg #[.int .i64 gt, .int .i64 gc]) ∧ (m.testBit 8 = true → t8 = .int .i64 gt) ∧ (m.testBit 9 = true → t9 = .map (some w.heap.size)) ∧ (m.testBit 10 = true → t10 = .agg #[.int .i64 xp, .int .i64 xa]) ∧ (m.testBit 11 = true → t11 = .agg #[.int .i64 gt, .int .i64 gc]) ∧ (m.testBit 12 = true → t12 = .int .i64 gc) ∧ (m.testBit 13 = true → t13 = .agg #[.int .i64 xp, .int .i64 xa, .int .i64 gt, .int .i64 gc]) ∧
          ((m.testBit 14 = false ∧ m.testBit 15 = false ∧ m.testBit 16 = false ∧ w2 = Wd) ∨
           (m.testBit 14 = true ∧ m.testBit 15 = false ∧ m.testBit 16 = false ∧ w2 = Wd.alloc (.cells #[.int .i64 xp, .int .i64 xa, .int .i64 gt, .int .i64 gc] 30) ∧ t14 = .slice (some ⟨Wd.heap.size, 0, none⟩) 1 1) ∨
           (m.testBit 15 = true ∧ m.testBit 16 = false ∧ w2.ownsRow w.heap.size 30 4 t15 (pre.length + 1) (colV L (pre ++ [(xp, xa)])) ∧ (Wd.alloc (.cells #[.int .i64 xp, .int .i64 xa, .int .i64 gt, .int .i64 gc] 30)).grownBy w2 v.ownBlock) ∨
           (m.testBit 16 = true ∧ KeepsOthers Wd w2 ∧ Below w.heap.size Wd w2 ∧ ∃ v', Boxed w2 wr.heap.size 26 v' ∧ w2.ownsRow w.heap.size 30 4 v' (pre.length + 1) (colV L (pre ++ [(xp, xa)])) ∧ v' ≠ .slice none 0 0 ∧ Boxed w2 (w.heap.size + 1) 39 (.map (some w.heap.size)))))
          ⟨undef, undef, undef, undef, undef, undef, undef, undef, undef, undef, undef, undef, undef, undef, undef, undef, rfl, fun h => by simp at h, fun h => by simp at h, fun h => by simp at h, fun h => by simp at h, fun h => by simp at h, fun h => by simp at h, fun h => by simp at h, fun h => by simp at h, fun h => by simp at h, fun h => by simp at h, fun h => by simp at h, fun h => by simp at h, fun h => by simp at h, fun h => by simp at h, .inl ⟨by simp, by simp, by simp, hWd⟩⟩ ?hend ?hstep
        case hend =>
          rintro m a w2 ⟨t0, t1, t2, t3, t4, t5, t6, t7, t8, t9, t10, t11, t12, t13, t14, t15, rfl, h0, h1, h2, h3, h4, h5, h6, h7, h8, h9, h10, h11, h12, h13, hw⟩ hall
          have a16 := hall 16 (by decide)
          rcases hw with ⟨_, _, e, _⟩ | ⟨_, _, e, _⟩ | ⟨_, e, _⟩ | ⟨_, g1, g2, v', g3, g4, g5, g6⟩
          · rw [a16] at e; cases e
          · rw [a16] at e; cases e
          · rw [a16] at e; cases e
          · have g7 := kd0.trans g1
            have g8 : w2.heap[w.heap.size]? = some (.map (hotF 0 L).toArray L.length) := g1.same _ _ hmd rfl
            show KeepsFrom _ _ _ ∧ KeepsWalks _ _ ∧ _
            refine ⟨g7.from _, ⟨g7.size, fun k o hk ho => g7.same k o hk (by cases o <;> simp_all [Obj.isWalk, Obj.isCells])⟩, ⟨⟨v', g3, by simpa using g4, by simp [g5]⟩, g6, g8⟩, hBW.trans (kd2.trans g2)⟩
        case hstep =>
          rintro m a w2 ⟨t0, t1, t2, t3, t4, t5, t6, t7, t8, t9, t10, t11, t12, t13, t14, t15, rfl, h0, h1, h2, h3, h4, h5, h6, h7, h8, h9, h10, h11, h12, h13, hw⟩ hD k o ho hk hn
          have po : ∀ {k i : Nat} {p : Prop}, k ≠ i → (m.testBit k = true → p) → ((m ||| (1 <<< i)).testBit k = true → p) := fun hne h hb => h (by rw [qQz] at hb; simpa [hne.symm] using hb)
          have hk17 : k < 17 := (Array.getElem?_eq_some_iff.1 ho).1
          rcases k with _ | _ | _ | _ | _ | _ | _ | _ | _ | _ | _ | _ | _ | _ | _ | _ | _ | k
          · -- 0
            simp only [List.getElem?_toArray, List.getElem?_cons_zero, List.getElem?_cons_succ, Nat.zero_add, Nat.reduceAdd, Option.some.injEq] at ho hk ⊢
            subst ho
            rcases hw with ⟨k14, k15, k16, rfl⟩ | ⟨k14, k15, k16, rfl, rfl⟩ | ⟨e, _⟩ | ⟨e, _⟩
            · refine ⟨by simp [Region.wanted], fun K hK => ?_⟩
              first | gi_big_move | gi_big_op
              exact hK _ _ ⟨_, _, _, _, _, _, _, _, _, _, _, _, _, _, _, _, rfl, fun _ => rfl, po (by decide) h1, po (by decide) h2, po (by decide) h3, po (by decide) h4, po (by decide) h5, po (by decide) h6, po (by decide) h7, po (by decide) h8, po (by decide) h9, po (by decide) h10, po (by decide) h11, po (by decide) h12, po (by decide) h13, .inl ⟨by rw [qQz, k14]; rfl, by rw [qQz, k15]; rfl, by rw [qQz, k16]; rfl, rfl⟩⟩
            · refine ⟨by simp [Region.wanted], fun K hK => ?_⟩
              first | gi_big_move | gi_big_op
              exact hK _ _ ⟨_, _, _, _, _, _, _, _, _, _, _, _, _, _, _, _, rfl, fun _ => rfl, po (by decide) h1, po (by decide) h2, po (by decide) h3, po (by decide) h4, po (by decide) h5, po (by decide) h6, po (by decide) h7, po (by decide) h8, po (by decide) h9, po (by decide) h10, po (by decide) h11, po (by decide) h12, po (by decide) h13, .inr (.inl ⟨by rw [qQz, k14]; rfl, by rw [qQz, k15]; rfl, by rw [qQz, k16]; rfl, rfl, rfl⟩)⟩
            · exact absurd (hD 15 _ rfl e 0 (by decide)) (by rw [hk]; decide)
            · exact absurd (hD 16 _ rfl e 0 (by decide)) (by rw [hk]; decide)
          · -- 1
            simp only [List.getElem?_toArray, List.getElem?_cons_zero, List.getElem?_cons_succ, Nat.zero_add, Nat.reduceAdd, Option.some.injEq] at ho hk ⊢
            subst ho
            have k14 : m.testBit 14 = false := by
              cases e : m.testBit 14 with
              | false => rfl
              | true =>
                exfalso
                have e0 := hD 14 _ rfl e 13 (by decide)
                have e1 := hD 13 _ rfl e0 2 (by decide)
                have e2 := hD 2 _ rfl e1 1 (by decide)
                rw [hk] at e2; cases e2
            rcases hw with ⟨_, k15, k16, rfl⟩ | ⟨e, _⟩ | ⟨e, _⟩ | ⟨e, _⟩
            · refine ⟨by simp [Region.wanted], fun K hK => ?_⟩
              first | gi_big_move | gi_big_op
              exact hK _ _ ⟨_, _, _, _, _, _, _, _, _, _, _, _, _, _, _, _, rfl, po (by decide) h0, fun _ => rfl, po (by decide) h2, po (by decide) h3, po (by decide) h4, po (by decide) h5, po (by decide) h6, po (by decide) h7, po (by decide) h8, po (by decide) h9, po (by decide) h10, po (by decide) h11, po (by decide) h12, po (by decide) h13, .inl ⟨by rw [qQz, k14]; rfl, by rw [qQz, k15]; rfl, by rw [qQz, k16]; rfl, rfl⟩⟩
            · rw [k14] at e; cases e
            · exact absurd (hD 15 _ rfl e 14 (by decide)) (by rw [k14]; decide)
            · exact absurd (hD 16 _ rfl e 14 (by decide)) (by rw [k14]; decide)
          · -- 2
            simp only [List.getElem?_toArray, List.getElem?_cons_zero, List.getElem?_cons_succ, Nat.zero_add, Nat.reduceAdd, Option.some.injEq] at ho hk ⊢
            subst ho
            obtain rfl := h1 (hn 1 (by decide))
            have k14 : m.testBit 14 = false := by
              cases e : m.testBit 14 with
              | false => rfl
              | true =>
                exfalso
                have e0 := hD 14 _ rfl e 13 (by decide)
                have e1 := hD 13 _ rfl e0 2 (by decide)
                rw [hk] at e1; cases e1
            rcases hw with ⟨_, k15, k16, rfl⟩ | ⟨e, _⟩ | ⟨e, _⟩ | ⟨e, _⟩
            · refine ⟨by simp [Region.wanted], fun K hK => ?_⟩
              first | gi_big_move | gi_big_op
              exact hK _ _ ⟨_, _, _, _, _, _, _, _, _, _, _, _, _, _, _, _, rfl, po (by decide) h0, fun _ => rfl, fun _ => rfl, po (by decide) h3, po (by decide) h4, po (by decide) h5, po (by decide) h6, po (by decide) h7, po (by decide) h8, po (by decide) h9, po (by decide) h10, po (by decide) h11, po (by decide) h12, po (by decide) h13, .inl ⟨by rw [qQz, k14]; rfl, by rw [qQz, k15]; rfl, by rw [qQz, k16]; rfl, rfl⟩⟩
            · rw [k14] at e; cases e
            · exact absurd (hD 15 _ rfl e 14 (by decide)) (by rw [k14]; decide)
            · exact absurd (hD 16 _ rfl e 14 (by decide)) (by rw [k14]; decide)
          · -- 3
            simp only [List.getElem?_toArray, List.getElem?_cons_zero, List.getElem?_cons_succ, Nat.zero_add, Nat.reduceAdd, Option.some.injEq] at ho hk ⊢
            subst ho
            have k14 : m.testBit 14 = false := by
              cases e : m.testBit 14 with
              | false => rfl
              | true =>
                exfalso
                have e0 := hD 14 _ rfl e 13 (by decide)
                have e1 := hD 13 _ rfl e0 4 (by decide)
                have e2 := hD 4 _ rfl e1 3 (by decide)
                rw [hk] at e2; cases e2
            rcases hw with ⟨_, k15, k16, rfl⟩ | ⟨e, _⟩ | ⟨e, _⟩ | ⟨e, _⟩
            · refine ⟨by simp [Region.wanted], fun K hK => ?_⟩
              first | gi_big_move | gi_big_op
              exact hK _ _ ⟨_, _, _, _, _, _, _, _, _, _, _, _, _, _, _, _, rfl, po (by decide) h0, po (by decide) h1, po (by decide) h2, fun _ => rfl, po (by decide) h4, po (by decide) h5, po (by decide) h6, po (by decide) h7, po (by decide) h8, po (by decide) h9, po (by decide) h10, po (by decide) h11, po (by decide) h12, po (by decide) h13, .inl ⟨by rw [qQz, k14]; rfl, by rw [qQz, k15]; rfl, by rw [qQz, k16]; rfl, rfl⟩⟩
            · rw [k14] at e; cases e
            · exact absurd (hD 15 _ rfl e 14 (by decide)) (by rw [k14]; decide)
            · exact absurd (hD 16 _ rfl e 14 (by decide)) (by rw [k14]; decide)
          · -- 4
            simp only [List.getElem?_toArray, List.getElem?_cons_zero, List.getElem?_cons_succ, Nat.zero_add, Nat.reduceAdd, Option.some.injEq] at ho hk ⊢
            subst ho
            obtain rfl := h3 (hn 3 (by decide))
            have k14 : m.testBit 14 = false := by
              cases e : m.testBit 14 with
              | false => rfl
              | true =>
                exfalso
                have e0 := hD 14 _ rfl e 13 (by decide)
                have e1 := hD 13 _ rfl e0 4 (by decide)
                rw [hk] at e1; cases e1
            rcases hw with ⟨_, k15, k16, rfl⟩ | ⟨e, _⟩ | ⟨e, _⟩ | ⟨e, _⟩
            · refine ⟨by simp [Region.wanted], fun K hK => ?_⟩
              first | gi_big_move | gi_big_op
              exact hK _ _ ⟨_, _, _, _, _, _, _, _, _, _, _, _, _, _, _, _, rfl, po (by decide) h0, po (by decide) h1, po (by decide) h2, fun _ => rfl, fun _ => rfl, po (by decide) h5, po (by decide) h6, po (by decide) h7, po (by decide) h8, po (by decide) h9, po (by decide) h10, po (by decide) h11, po (by decide) h12, po (by decide) h13, .inl ⟨by rw [qQz, k14]; rfl, by rw [qQz, k15]; rfl, by rw [qQz, k16]; rfl, rfl⟩⟩
            · rw [k14] at e; cases e
            · exact absurd (hD 15 _ rfl e 14 (by decide)) (by rw [k14]; decide)
            · exact absurd (hD 16 _ rfl e 14 (by decide)) (by rw [k14]; decide)
          · -- 5
            simp only [List.getElem?_toArray, List.getElem?_cons_zero, List.getElem?_cons_succ, Nat.zero_add, Nat.reduceAdd, Option.some.injEq] at ho hk ⊢
            subst ho
            have k14 : m.testBit 14 = false := by
              cases e : m.testBit 14 with
              | false => rfl
              | true =>
                exfalso
                have e0 := hD 14 _ rfl e 13 (by decide)
                have e1 := hD 13 _ rfl e0 8 (by decide)
                have e2 := hD 8 _ rfl e1 7 (by decide)
                have e3 := hD 7 _ rfl e2 5 (by decide)
                rw [hk] at e3; cases e3
            rcases hw with ⟨_, k15, k16, rfl⟩ | ⟨e, _⟩ | ⟨e, _⟩ | ⟨e, _⟩
            · refine ⟨by simp [Region.wanted], fun K hK => ?_⟩
              first | gi_big_move | gi_big_op
              exact hK _ _ ⟨_, _, _, _, _, _, _, _, _, _, _, _, _, _, _, _, rfl, po (by decide) h0, po (by decide) h1, po (by decide) h2, po (by decide) h3, po (by decide) h4, fun _ => rfl, po (by decide) h6, po (by decide) h7, po (by decide) h8, po (by decide) h9, po (by decide) h10, po (by decide) h11, po (by decide) h12, po (by decide) h13, .inl ⟨by rw [qQz, k14]; rfl, by rw [qQz, k15]; rfl, by rw [qQz, k16]; rfl, rfl⟩⟩
            · rw [k14] at e; cases e
            · exact absurd (hD 15 _ rfl e 14 (by decide)) (by rw [k14]; decide)
            · exact absurd (hD 16 _ rfl e 14 (by decide)) (by rw [k14]; decide)
          · -- 6
            simp only [List.getElem?_toArray, List.getElem?_cons_zero, List.getElem?_cons_succ, Nat.zero_add, Nat.reduceAdd, Option.some.injEq] at ho hk ⊢
            subst ho
            have k14 : m.testBit 14 = false := by
              cases e : m.testBit 14 with
              | false => rfl
              | true =>
                exfalso
                have e0 := hD 14 _ rfl e 13 (by decide)
                have e1 := hD 13 _ rfl e0 8 (by decide)
                have e2 := hD 8 _ rfl e1 7 (by decide)
                have e3 := hD 7 _ rfl e2 6 (by decide)
                rw [hk] at e3; cases e3
            rcases hw with ⟨_, k15, k16, rfl⟩ | ⟨e, _⟩ | ⟨e, _⟩ | ⟨e, _⟩
            · refine ⟨by simp [Region.wanted], fun K hK => ?_⟩
              first | gi_big_move | gi_big_op
              exact hK _ _ ⟨_, _, _, _, _, _, _, _, _, _, _, _, _, _, _, _, rfl, po (by decide) h0, po (by decide) h1, po (by decide) h2, po (by decide) h3, po (by decide) h4, po (by decide) h5, fun _ => rfl, po (by decide) h7, po (by decide) h8, po (by decide) h9, po (by decide) h10, po (by decide) h11, po (by decide) h12, po (by decide) h13, .inl ⟨by rw [qQz, k14]; rfl, by rw [qQz, k15]; rfl, by rw [qQz, k16]; rfl, rfl⟩⟩
            · rw [k14] at e; cases e
            · exact absurd (hD 15 _ rfl e 14 (by decide)) (by rw [k14]; decide)
            · exact absurd (hD 16 _ rfl e 14 (by decide)) (by rw [k14]; decide)
          · -- 7
            simp only [List.getElem?_toArray, List.getElem?_cons_zero, List.getElem?_cons_succ, Nat.zero_add, Nat.reduceAdd, Option.some.injEq] at ho hk ⊢
            subst ho
            obtain rfl := h5 (hn 5 (by decide))
            obtain rfl := h6 (hn 6 (by decide))
            have k14 : m.testBit 14 = false := by
              cases e : m.testBit 14 with
              | false => rfl
              | true =>
                exfalso
                have e0 := hD 14 _ rfl e 13 (by decide)
                have e1 := hD 13 _ rfl e0 8 (by decide)
                have e2 := hD 8 _ rfl e1 7 (by decide)
                rw [hk] at e2; cases e2
            rcases hw with ⟨_, k15, k16, rfl⟩ | ⟨e, _⟩ | ⟨e, _⟩ | ⟨e, _⟩
            · refine ⟨by simp [Region.wanted], fun K hK => ?_⟩
              first | gi_big_move | gi_big_op
              exact hK _ _ ⟨_, _, _, _, _, _, _, _, _, _, _, _, _, _, _, _, rfl, po (by decide) h0, po (by decide) h1, po (by decide) h2, po (by decide) h3, po (by decide) h4, fun _ => rfl, fun _ => rfl, fun _ => rfl, po (by decide) h8, po (by decide) h9, po (by decide) h10, po (by decide) h11, po (by decide) h12, po (by decide) h13, .inl ⟨by rw [qQz, k14]; rfl, by rw [qQz, k15]; rfl, by rw [qQz, k16]; rfl, rfl⟩⟩
            · rw [k14] at e; cases e
            · exact absurd (hD 15 _ rfl e 14 (by decide)) (by rw [k14]; decide)
            · exact absurd (hD 16 _ rfl e 14 (by decide)) (by rw [k14]; decide)
          · -- 8
            simp only [List.getElem?_toArray, List.getElem?_cons_zero, List.getElem?_cons_succ, Nat.zero_add, Nat.reduceAdd, Option.some.injEq] at ho hk ⊢
            subst ho
            obtain rfl := h7 (hn 7 (by decide))
            have k14 : m.testBit 14 = false := by
              cases e : m.testBit 14 with
              | false => rfl
              | true =>
                exfalso
                have e0 := hD 14 _ rfl e 13 (by decide)
                have e1 := hD 13 _ rfl e0 8 (by decide)
                rw [hk] at e1; cases e1
            rcases hw with ⟨_, k15, k16, rfl⟩ | ⟨e, _⟩ | ⟨e, _⟩ | ⟨e, _⟩
            · refine ⟨by simp [Region.wanted], fun K hK => ?_⟩
              first | gi_big_move | gi_big_op
              exact hK _ _ ⟨_, _, _, _, _, _, _, _, _, _, _, _, _, _, _, _, rfl, po (by decide) h0, po (by decide) h1, po (by decide) h2, po (by decide) h3, po (by decide) h4, po (by decide) h5, po (by decide) h6, fun _ => rfl, fun _ => rfl, po (by decide) h9, po (by decide) h10, po (by decide) h11, po (by decide) h12, po (by decide) h13, .inl ⟨by rw [qQz, k14]; rfl, by rw [qQz, k15]; rfl, by rw [qQz, k16]; rfl, rfl⟩⟩
            · rw [k14] at e; cases e
            · exact absurd (hD 15 _ rfl e 14 (by decide)) (by rw [k14]; decide)
            · exact absurd (hD 16 _ rfl e 14 (by decide)) (by rw [k14]; decide)
          · -- 9
            simp only [List.getElem?_toArray, List.getElem?_cons_zero, List.getElem?_cons_succ, Nat.zero_add, Nat.reduceAdd, Option.some.injEq] at ho hk ⊢
            subst ho
            have k14 : m.testBit 14 = false := by
              cases e : m.testBit 14 with
              | false => rfl
              | true =>
                exfalso
                have e0 := hD 14 _ rfl e 13 (by decide)
                have e1 := hD 13 _ rfl e0 12 (by decide)
                have e2 := hD 12 _ rfl e1 11 (by decide)
                have e3 := hD 11 _ rfl e2 9 (by decide)
                rw [hk] at e3; cases e3
            rcases hw with ⟨_, k15, k16, rfl⟩ | ⟨e, _⟩ | ⟨e, _⟩ | ⟨e, _⟩
            · refine ⟨by simp [Region.wanted], fun K hK => ?_⟩
              first | gi_big_move | gi_big_op
              exact hK _ _ ⟨_, _, _, _, _, _, _, _, _, _, _, _, _, _, _, _, rfl, po (by decide) h0, po (by decide) h1, po (by decide) h2, po (by decide) h3, po (by decide) h4, po (by decide) h5, po (by decide) h6, po (by decide) h7, po (by decide) h8, fun _ => rfl, po (by decide) h10, po (by decide) h11, po (by decide) h12, po (by decide) h13, .inl ⟨by rw [qQz, k14]; rfl, by rw [qQz, k15]; rfl, by rw [qQz, k16]; rfl, rfl⟩⟩
            · rw [k14] at e; cases e
            · exact absurd (hD 15 _ rfl e 14 (by decide)) (by rw [k14]; decide)
            · exact absurd (hD 16 _ rfl e 14 (by decide)) (by rw [k14]; decide)
          · -- 10
            simp only [List.getElem?_toArray, List.getElem?_cons_zero, List.getElem?_cons_succ, Nat.zero_add, Nat.reduceAdd, Option.some.injEq] at ho hk ⊢
            subst ho
            have k14 : m.testBit 14 = false := by
              cases e : m.testBit 14 with
              | false => rfl
              | true =>
                exfalso
                have e0 := hD 14 _ rfl e 13 (by decide)
                have e1 := hD 13 _ rfl e0 12 (by decide)
                have e2 := hD 12 _ rfl e1 11 (by decide)
                have e3 := hD 11 _ rfl e2 10 (by decide)
                rw [hk] at e3; cases e3
            rcases hw with ⟨_, k15, k16, rfl⟩ | ⟨e, _⟩ | ⟨e, _⟩ | ⟨e, _⟩
            · refine ⟨by simp [Region.wanted], fun K hK => ?_⟩
              first | gi_big_move | gi_big_op
              exact hK _ _ ⟨_, _, _, _, _, _, _, _, _, _, _, _, _, _, _, _, rfl, po (by decide) h0, po (by decide) h1, po (by decide) h2, po (by decide) h3, po (by decide) h4, po (by decide) h5, po (by decide) h6, po (by decide) h7, po (by decide) h8, po (by decide) h9, fun _ => rfl, po (by decide) h11, po (by decide) h12, po (by decide) h13, .inl ⟨by rw [qQz, k14]; rfl, by rw [qQz, k15]; rfl, by rw [qQz, k16]; rfl, rfl⟩⟩
            · rw [k14] at e; cases e
            · exact absurd (hD 15 _ rfl e 14 (by decide)) (by rw [k14]; decide)
            · exact absurd (hD 16 _ rfl e 14 (by decide)) (by rw [k14]; decide)
          · -- 11
            simp only [List.getElem?_toArray, List.getElem?_cons_zero, List.getElem?_cons_succ, Nat.zero_add, Nat.reduceAdd, Option.some.injEq] at ho hk ⊢
            subst ho
            obtain rfl := h9 (hn 9 (by decide))
            obtain rfl := h10 (hn 10 (by decide))
            have k14 : m.testBit 14 = false := by
              cases e : m.testBit 14 with
              | false => rfl
              | true =>
                exfalso
                have e0 := hD 14 _ rfl e 13 (by decide)
                have e1 := hD 13 _ rfl e0 12 (by decide)
                have e2 := hD 12 _ rfl e1 11 (by decide)
                rw [hk] at e2; cases e2
            rcases hw with ⟨_, k15, k16, rfl⟩ | ⟨e, _⟩ | ⟨e, _⟩ | ⟨e, _⟩
            · refine ⟨by simp [Region.wanted], fun K hK => ?_⟩
              first | gi_big_move | gi_big_op
              exact hK _ _ ⟨_, _, _, _, _, _, _, _, _, _, _, _, _, _, _, _, rfl, po (by decide) h0, po (by decide) h1, po (by decide) h2, po (by decide) h3, po (by decide) h4, po (by decide) h5, po (by decide) h6, po (by decide) h7, po (by decide) h8, fun _ => rfl, fun _ => rfl, fun _ => rfl, po (by decide) h12, po (by decide) h13, .inl ⟨by rw [qQz, k14]; rfl, by rw [qQz, k15]; rfl, by rw [qQz, k16]; rfl, rfl⟩⟩
            · rw [k14] at e; cases e
            · exact absurd (hD 15 _ rfl e 14 (by decide)) (by rw [k14]; decide)
            · exact absurd (hD 16 _ rfl e 14 (by decide)) (by rw [k14]; decide)
          · -- 12
            simp only [List.getElem?_toArray, List.getElem?_cons_zero, List.getElem?_cons_succ, Nat.zero_add, Nat.reduceAdd, Option.some.injEq] at ho hk ⊢
            subst ho
            obtain rfl := h11 (hn 11 (by decide))
            have k14 : m.testBit 14 = false := by
              cases e : m.testBit 14 with
              | false => rfl
              | true =>
                exfalso
                have e0 := hD 14 _ rfl e 13 (by decide)
                have e1 := hD 13 _ rfl e0 12 (by decide)
                rw [hk] at e1; cases e1
            rcases hw with ⟨_, k15, k16, rfl⟩ | ⟨e, _⟩ | ⟨e, _⟩ | ⟨e, _⟩
            · refine ⟨by simp [Region.wanted], fun K hK => ?_⟩
              first | gi_big_move | gi_big_op
              exact hK _ _ ⟨_, _, _, _, _, _, _, _, _, _, _, _, _, _, _, _, rfl, po (by decide) h0, po (by decide) h1, po (by decide) h2, po (by decide) h3, po (by decide) h4, po (by decide) h5, po (by decide) h6, po (by decide) h7, po (by decide) h8, po (by decide) h9, po (by decide) h10, fun _ => rfl, fun _ => rfl, po (by decide) h13, .inl ⟨by rw [qQz, k14]; rfl, by rw [qQz, k15]; rfl, by rw [qQz, k16]; rfl, rfl⟩⟩
            · rw [k14] at e; cases e
            · exact absurd (hD 15 _ rfl e 14 (by decide)) (by rw [k14]; decide)
            · exact absurd (hD 16 _ rfl e 14 (by decide)) (by rw [k14]; decide)
          · -- 13
            simp only [List.getElem?_toArray, List.getElem?_cons_zero, List.getElem?_cons_succ, Nat.zero_add, Nat.reduceAdd, Option.some.injEq] at ho hk ⊢
            subst ho
            obtain rfl := h2 (hn 2 (by decide))
            obtain rfl := h4 (hn 4 (by decide))
            obtain rfl := h8 (hn 8 (by decide))
            obtain rfl := h12 (hn 12 (by decide))
            have k14 : m.testBit 14 = false := by
              cases e : m.testBit 14 with
              | false => rfl
              | true =>
                exfalso
                have e0 := hD 14 _ rfl e 13 (by decide)
                rw [hk] at e0; cases e0
            rcases hw with ⟨_, k15, k16, rfl⟩ | ⟨e, _⟩ | ⟨e, _⟩ | ⟨e, _⟩
            · refine ⟨by simp [Region.wanted], fun K hK => ?_⟩
              first | gi_big_move | gi_big_op
              exact hK _ _ ⟨_, _, _, _, _, _, _, _, _, _, _, _, _, _, _, _, rfl, po (by decide) h0, po (by decide) h1, fun _ => rfl, po (by decide) h3, fun _ => rfl, po (by decide) h5, po (by decide) h6, po (by decide) h7, fun _ => rfl, po (by decide) h9, po (by decide) h10, po (by decide) h11, fun _ => rfl, fun _ => rfl, .inl ⟨by rw [qQz, k14]; rfl, by rw [qQz, k15]; rfl, by rw [qQz, k16]; rfl, rfl⟩⟩
            · rw [k14] at e; cases e
            · exact absurd (hD 15 _ rfl e 14 (by decide)) (by rw [k14]; decide)
            · exact absurd (hD 16 _ rfl e 14 (by decide)) (by rw [k14]; decide)
          · -- 14
            simp only [List.getElem?_toArray, List.getElem?_cons_zero, List.getElem?_cons_succ, Nat.zero_add, Nat.reduceAdd, Option.some.injEq] at ho hk ⊢
            subst ho
            obtain rfl := h13 (hn 13 (by decide))
            rcases hw with ⟨k14, k15, k16, rfl⟩ | ⟨e, _⟩ | ⟨e, _⟩ | ⟨e, _⟩
            · refine ⟨by simp [Region.wanted], fun K hK => ?_⟩
              first | gi_big_move | gi_big_op
              exact hK _ _ ⟨_, _, _, _, _, _, _, _, _, _, _, _, _, _, _, _, rfl, po (by decide) h0, po (by decide) h1, po (by decide) h2, po (by decide) h3, po (by decide) h4, po (by decide) h5, po (by decide) h6, po (by decide) h7, po (by decide) h8, po (by decide) h9, po (by decide) h10, po (by decide) h11, po (by decide) h12, fun _ => rfl, .inr (.inl ⟨by rw [qQz]; simp, by rw [qQz, k15]; rfl, by rw [qQz, k16]; rfl, rfl, rfl⟩)⟩
            · rw [hk] at e; cases e
            · exact absurd (hD 15 _ rfl e 14 (by decide)) (by rw [hk]; decide)
            · exact absurd (hD 16 _ rfl e 14 (by decide)) (by rw [hk]; decide)
          · -- 15
            simp only [List.getElem?_toArray, List.getElem?_cons_zero, List.getElem?_cons_succ, Nat.zero_add, Nat.reduceAdd, Option.some.injEq] at ho hk ⊢
            subst ho
            obtain rfl := h0 (hn 0 (by decide))
            have e14 := hn 14 (by decide)
            rcases hw with ⟨e, _⟩ | ⟨_, _, k16, rfl, rfl⟩ | ⟨e, _⟩ | ⟨e, _⟩
            · rw [e14] at e; cases e
            · refine ⟨by simp [Region.wanted], fun K hK => ?_⟩
              obtain ⟨v', w1, hrun, r1, r2, r3⟩ := run_append_own (P := Try.prog) (Wd.alloc (.cells #[.int .i64 xp, .int .i64 xa, .int .i64 gt, .int .i64 gc] 30)) w.heap.size 26 26 30 i0 (.agg #[.int .i64 0, .int .i64 0, .int .i64 0, .int .i64 0]) 4 32 Try.underlying26 hi0 hz0 hz1 hz2 rfl (by decide) _ pre.length (colV L pre) (hrd.alloc _) ⟨Wd.heap.size, 0, none⟩ 1 1
                [.int .i64 xp, .int .i64 xa, .int .i64 gt, .int .i64 gc] rfl (cells4 Wd xp xa gt gc) (by simp [Value.oneCell']) (by unfold maxLen; omega) (by omega) (by simp; omega)
              unfold Oper.wpIn
              refine ⟨by simp [Oper.about, resolve, Target.leads, Sem.run_pure], ?_⟩
              rw [Oper.semAt_plain _ _ _ (by intro c hc'; cases hc')]
              simp [execOp, resolve, invoke, builtin, Act.eval, hrun, Result.andThen]
              refine hK _ _ ⟨_, _, _, _, _, _, _, _, _, _, _, _, _, _, _, _, rfl, fun _ => rfl, po (by decide) h1, po (by decide) h2, po (by decide) h3, po (by decide) h4, po (by decide) h5, po (by decide) h6, po (by decide) h7, po (by decide) h8, po (by decide) h9, po (by decide) h10, po (by decide) h11, po (by decide) h12, po (by decide) h13, .inr (.inr (.inl ⟨by rw [qQz]; simp, by rw [qQz, k16]; rfl, ?_, r2⟩))⟩
              simpa [colV, htV, colH, hgt, hgc] using r1
            · rw [hk] at e; cases e
            · exact absurd (hD 16 _ rfl e 15 (by decide)) (by rw [hk]; decide)
          · -- 16
            simp only [List.getElem?_toArray, List.getElem?_cons_zero, List.getElem?_cons_succ, Nat.zero_add, Nat.reduceAdd, Option.some.injEq] at ho hk ⊢
            subst ho
            have e15 := hn 15 (by decide)
            rcases hw with ⟨_, e, _⟩ | ⟨_, e, _⟩ | ⟨_, _, hown, hgrow⟩ | ⟨e, _⟩
            · rw [e15] at e; cases e
            · rw [e15] at e; cases e
            · refine ⟨by simp [Region.wanted], fun K hK => ?_⟩
              obtain ⟨g', cap', rfl⟩ := ownsRow_succ hown
              obtain ⟨hv1, hv2, hr2, hk2, hb2⟩ := hvd.appended (by decide) hrd hWs hsw hown hgrow
              have hc1 := hv1.cell
              have hf1 := hv1.frozen
              first | gi_big_move | gi_big_op
              exact hK _ _ ⟨_, _, _, _, _, _, _, _, _, _, _, _, _, _, _, _, rfl, po (by decide) h0, po (by decide) h1, po (by decide) h2, po (by decide) h3, po (by decide) h4, po (by decide) h5, po (by decide) h6, po (by decide) h7, po (by decide) h8, po (by decide) h9, po (by decide) h10, po (by decide) h11, po (by decide) h12, po (by decide) h13, .inr (.inr (.inr ⟨by rw [qQz]; simp, hk2, hb2, _, hv2, hr2, by simp, (((hMd.alloc _).kept hgrow (hMd.not_row (by decide) hrd)).other (by have := bM.lt; omega) _)⟩))⟩
            · rw [hk] at e; cases e
          · omega
      case done =>
        rintro D ks Wd hD hS ⟨⟨⟨v, hv, hrow, hnil⟩, hbM', hbm'⟩, hBW⟩ hK
        have hc := hv.cell
        have hlen : (ks.map (colH L)).length = ks.length := by simp
        have hkl : ks.length ≤ i := by
          have := hS.length_eq
          simp at this; omega
        have hrow2 : Wd.ownsRow w.heap.size 30 4 v (ks.map (colH L)).length (flH (ks.map (colH L))) := by
          rw [hlen]
          unfold flH
          rw [List.map_map]
          exact hrow
        have hsrt := hFw (sortH hrow2 (by rw [hlen]; omega))
        have Aq := (⟨hNd, hS⟩ : Hid _ ∧ Hid _)
        clear hlen hNd hS
        gi_wp2_with (gi_at_call 15; refine hsrt.mono ?_; clear hsrt; rintro e w2 ⟨rfl, DD, hp, hs, ho, hg⟩; have hv2 := hv.kept hg (hv.not_row (by decide) hrow2); have hc2 := hv2.cell)
        have hDD : DD = hrwL q i := by
          refine hot_sorted (hp.trans ?_) hs
          have := col_perm Aq.1.out Aq.2.out
          rw [hLe]; exact this
        have hw2 := rowV_hrw q hm
        rw [hDD] at ho
        have hK2 : w2.heap[D]? = some (.deferred (some [])) := by
          refine (hg.block D (Array.getElem?_eq_some_iff.1 hK).1 (fun e => ?_)).trans hK
          rcases hrow2.2 with ⟨rfl, _⟩ | ⟨g, cap, cur, rfl, _, hgb, _⟩
          · simp [Value.ownBlock] at e
          · obtain rfl : D = g := by simpa [Value.ownBlock] using e
            rw [hgb] at hK; cases hK
        have hB3 : Below w.heap.size w w2 := hBW.grown hg hBW.size (fun j ej => by
          rcases hrow2.2 with ⟨rfl, _⟩ | ⟨g, cap, cur, rfl, hb, _, _⟩
          · simp [Value.ownBlock] at ej
          · obtain rfl : g = j := by simpa [Value.ownBlock] using ej
            exact hb)
        have hlenD : (ks.map (colH L)).length = (hrwL q i).length := by rw [← hDD]; exact hp.length_eq.symm
        refine ⟨by simp, .inl ⟨_, _, rfl, run_takeDeferred hK2, ?_⟩⟩
        refine ⟨_, results_tmp rfl _ _ _, v, rfl, ?_, hB3.trans (belowK_b (w := w) (Nat.le_refl _) w2 D _ _ (by omega) hK2 rfl rfl)⟩
        rw [hw2.2, hw2.1, ← hlenD]
        exact ownsRow_putObj ho _ hK2 rfl
      case stop =>
        rintro D cc pre W _ _ h _
        exact h.elim
theorem rowsC_ok : HeatsC Try.prog 5 30 := ⟨fun oa m c q w hc hm => callsIn_wide.1 (rows_in Fence.wide 3 trivial trivial trivial trivial (fun h => callsIn_wide.2 h) rfl (by omega) oa m c q w hc hm)⟩
end
noncomputable def libRows (Γ : List (Int × Int)) (ins : List InD) (n : Nat) : Sm1 := heatsT (cxG n Γ ins) 157 158 30
theorem libRows_ok (Γ : List (Int × Int)) (ins : List InD) (n : Nat) : Sm1Ok (cxG n Γ ins) 5 (libRows Γ ins n) := fun ρ β s s' w args r v hρ hs h hr => heatsT_ok (cx := cxG n Γ ins) rowsC_ok (fun _ _ _ => rfl) (fun _ _ _ => rfl) ρ β s s' w args r v hρ hs h hr
section
open Go.Lib
set_option maxHeartbeats 2000000 in
set_option maxRecDepth 100000 in
theorem clone20_row (a : Addr) (n c : Nat) (xs : List Value) (w : World) (hl : xs.length = n * 4) (hc : ∀ (j : Nat) u, xs[j]? = some u → w.cell? (a.add j) = some u) (h1 : ∀ u ∈ xs, u.oneCell' = true) (hm : n ≤ maxLen) (hb : n * 32 ≤ 140737488355328) :
    Calls Try.prog 20 #[.slice (some a) n c] w fun e w' => ∃ v', e = .returned v' ∧ w'.ownsRow w.heap.size 30 4 v' n xs ∧ v' ≠ .slice none 0 0 ∧ Below w.heap.size w w' := by
  obtain ⟨i0, hi, hz0, hz1, hz2⟩ := info_parts (P := Try.prog) (e := 30) (z := .agg #[.int .i64 0, .int .i64 0, .int .i64 0, .int .i64 0]) (size := 4) (bytes := 32) (by kernel_rfl)
  have q22 : ∀ (w : World) (a : Option Addr) (n c n' c' : Nat), (binOp .eql 26 (.slice a n c) (.slice none n' c')).run Try.prog w = .ok (.bool a.isNone) w := fun w a n c n' c' => Lib.run_eql_slice_nil w _ _ a n c n' c' Try.underlying26
  have u22 : ∀ w, Sem.run Try.prog (underlying 26) w = .ok (TypeDesc.slice 30) w := run_underlying Try.underlying26
  have A : Aside (∀ (j : Nat) u, xs[j]? = some u → w.cell? (a.add j) = some u) := hc
  clear hc
  go_enter Try.func20, Try.ntmps20
  go_wp2_with (at_builtin; refine wpList_append_own _ rfl _ _ 26 rfl w.heap.size 30 i0 (.agg #[.int .i64 0, .int .i64 0, .int .i64 0, .int .i64 0]) 4 32 Try.underlying26 hi hz0 hz1 hz2 rfl (by decide) _ _ _ rfl (World.ownsRow_made w #[] 0 (Nat.le_refl _) (Nat.zero_le _) rfl) a n c xs rfl ?qc1 ?qc2 ?qc3 ?qc4 ?qc5 ?qc6 ?_)
  case qc1 => exact hl
  case qc2 =>
    intro j u hj
    exact Lib.cell?_alloc_some _ (A.out j u hj)
  case qc3 => exact h1
  case qc4 => omega
  case qc5 => omega
  case qc6 => simp
  intro v' w1 hown hgrow hnil
  go_wp2
  go_ret
  refine ⟨v', rfl, by simpa using hown, ?_, ?_⟩
  · first | exact hnil | (intro e; exact absurd (hnil.1 e).1 (by simp))
  · exact ((Below.refl _ w).alloc (Nat.le_refl _) _).grown hgrow (by simp) (by intro k hk; simp [Value.ownBlock] at hk; omega)
set_option maxHeartbeats 1000000 in
theorem clone20_nil (n c : Nat) (w : World) :
    Calls Try.prog 20 #[.slice none n c] w fun e w' => e = .returned (.slice none 0 0) ∧ w' = w := by
  have q22 : ∀ (w : World) (a : Option Addr) (n c n' c' : Nat), (binOp .eql 26 (.slice a n c) (.slice none n' c')).run Try.prog w = .ok (.bool a.isNone) w := fun w a n c n' c' => Lib.run_eql_slice_nil w _ _ a n c n' c' Try.underlying26
  go_enter Try.func20, Try.ntmps20
  go_wp2
  go_ret
  exact ⟨rfl, rfl⟩
theorem clone20C : CloneC Try.prog 20 30 4 32 := ⟨clone20_nil, clone20_row⟩
noncomputable def libClone20 (Γ : List (Int × Int)) (ins : List InD) (n : Nat) : Sm1 := cloneT (cxG n Γ ins) [.int .i64, .int .i64, .int .i64, .int .i64] 30
theorem libClone20_ok (Γ : List (Int × Int)) (ins : List InD) (n : Nat) : Sm1Ok (cxG n Γ ins) 20 (libClone20 Γ ins n) := fun ρ β s s' w args r v hρ hs h hr => cloneT_ok (cx := cxG n Γ ins) (cks := [.int .i64, .int .i64, .int .i64, .int .i64]) (bytes := 32) clone20C (by decide) ρ β s s' w args r v hρ hs h hr
end
end Go.Proofs.Ytieocjnfjjgjeab
