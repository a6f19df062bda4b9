/-
  Functions of Go's library at this program, by their contracts, as the engine takes them. Printed by program.
-/
import Derived.Test.YtppiabilakeadaaGreatDoorGab
import Derived.Test.YtppiabilakeadaaGreatDoorShelf
import Derived.Lib.Walk
import Derived.Lib.Small
import Derived.Lib.Tables
import Derived.Shelf.Strings.Fields
set_option linter.unusedVariables false
namespace Go.Proofs.YtppiabilakeadaaGreatDoor
open Go Go.Eng Go.RowKit
theorem tab8 (i : Nat) (h : i < Lib.len8tab.size) : (((Lib.len8tab[i]'h).toNat : Nat) : Int) = (Lib.bitLen i : Int) ∧ (Lib.bitLen i : Int) ≤ 8 := by
  have hs := Lib.len8tab_size
  have h1 := Lib.len8_of (i : Int) (by omega) (by omega)
  have h2 := Lib.bitLen_le8' (i : Int) (by omega) (by omega)
  rw [Int.toNat_natCast] at h1 h2
  refine ⟨?_, by omega⟩
  rw [← h1]
  simp [Lib.len8, h]

theorem l24 (x : Int) (h0 : 0 ≤ x) (h1 : x ≤ 4294967295) (h2 : 16777216 ≤ x) (h : (x / 65536 / 256).toNat < Lib.len8tab.size) : wrap64 (24 + wrap64 (((Lib.len8tab[(x / 65536 / 256).toNat]'h).toNat : Nat) : Int)) = (Lib.bitLen x.toNat : Int) := by
  obtain ⟨t1, t2⟩ := tab8 (x / 65536 / 256).toNat h
  rw [t1]
  have e : (x / 65536 / 256).toNat = x.toNat / 16777216 := by omega
  have s := Lib.bitLen_shift24 x.toNat (by omega) (by omega)
  rw [e] at t2 ⊢
  rw [s]
  generalize Lib.bitLen (x.toNat / 16777216) = m at t2
  clear e s t1 h h0 h1 h2
  simp only [wrap64]
  omega

theorem l16 (x : Int) (h0 : 0 ≤ x) (h1 : x ≤ 4294967295) (h2 : 65536 ≤ x) (h : (x / 65536).toNat < Lib.len8tab.size) : wrap64 (16 + wrap64 (((Lib.len8tab[(x / 65536).toNat]'h).toNat : Nat) : Int)) = (Lib.bitLen x.toNat : Int) := by
  obtain ⟨t1, t2⟩ := tab8 (x / 65536).toNat h
  rw [t1]
  have e : (x / 65536).toNat = x.toNat / 65536 := by omega
  have s := Lib.bitLen_shift16 x.toNat (by omega) (by omega)
  rw [e] at t2 ⊢
  rw [s]
  generalize Lib.bitLen (x.toNat / 65536) = m at t2
  clear e s t1 h h0 h1 h2
  simp only [wrap64]
  omega

theorem l8 (x : Int) (h0 : 0 ≤ x) (h1 : x ≤ 4294967295) (h2 : 256 ≤ x) (h : (x / 256).toNat < Lib.len8tab.size) : wrap64 (8 + wrap64 (((Lib.len8tab[(x / 256).toNat]'h).toNat : Nat) : Int)) = (Lib.bitLen x.toNat : Int) := by
  obtain ⟨t1, t2⟩ := tab8 (x / 256).toNat h
  rw [t1]
  have e : (x / 256).toNat = x.toNat / 256 := by omega
  have s := Lib.bitLen_shift8 x.toNat (by omega) (by omega)
  rw [e] at t2 ⊢
  rw [s]
  generalize Lib.bitLen (x.toNat / 256) = m at t2
  clear e s t1 h h0 h1 h2
  simp only [wrap64]
  omega

theorem l0 (x : Int) (h0 : 0 ≤ x) (h1 : x ≤ 4294967295) (h2 : 0 ≤ x) (h : x.toNat < Lib.len8tab.size) : wrap64 (wrap64 (((Lib.len8tab[x.toNat]'h).toNat : Nat) : Int)) = (Lib.bitLen x.toNat : Int) := by
  obtain ⟨t1, t2⟩ := tab8 x.toNat h
  rw [t1]
  generalize Lib.bitLen x.toNat = m at t2
  clear t1 h h0 h1 h2
  simp only [wrap64]
  omega

theorem k56 (x : Int) (h0 : 0 ≤ x) (h1 : x ≤ 18446744073709551615) (h2 : 72057594037927936 ≤ x) (h : (x / 4294967296 / 65536 / 256).toNat < Lib.len8tab.size) (hb : x / 4294967296 / 65536 / 256 ≤ 255) : wrap64 (56 + wrap64 (((Lib.len8tab[(x / 4294967296 / 65536 / 256).toNat]'h).toNat : Nat) : Int)) = (Lib.bitLen x.toNat : Int) := by
  obtain ⟨t1, t2⟩ := tab8 (x / 4294967296 / 65536 / 256).toNat h
  rw [t1]
  have e : (x / 4294967296 / 65536 / 256).toNat = x.toNat / 72057594037927936 := by omega
  have s := Lib.bitLen_shift 56 x.toNat (by omega) (by omega)
  rw [show (2 : Nat) ^ 56 = 72057594037927936 from rfl] at s
  rw [e] at t2 ⊢
  rw [s]
  generalize Lib.bitLen (x.toNat / 72057594037927936) = m at t2
  clear e s t1 h h0 h1 h2
  simp only [wrap64]
  omega

theorem k48 (x : Int) (h0 : 0 ≤ x) (h1 : x ≤ 18446744073709551615) (h2 : 281474976710656 ≤ x) (h : (x / 4294967296 / 65536).toNat < Lib.len8tab.size) (hb : x / 4294967296 / 65536 ≤ 255) : wrap64 (48 + wrap64 (((Lib.len8tab[(x / 4294967296 / 65536).toNat]'h).toNat : Nat) : Int)) = (Lib.bitLen x.toNat : Int) := by
  obtain ⟨t1, t2⟩ := tab8 (x / 4294967296 / 65536).toNat h
  rw [t1]
  have e : (x / 4294967296 / 65536).toNat = x.toNat / 281474976710656 := by omega
  have s := Lib.bitLen_shift 48 x.toNat (by omega) (by omega)
  rw [show (2 : Nat) ^ 48 = 281474976710656 from rfl] at s
  rw [e] at t2 ⊢
  rw [s]
  generalize Lib.bitLen (x.toNat / 281474976710656) = m at t2
  clear e s t1 h h0 h1 h2
  simp only [wrap64]
  omega

theorem k40 (x : Int) (h0 : 0 ≤ x) (h1 : x ≤ 18446744073709551615) (h2 : 1099511627776 ≤ x) (h : (x / 4294967296 / 256).toNat < Lib.len8tab.size) (hb : x / 4294967296 / 256 ≤ 255) : wrap64 (40 + wrap64 (((Lib.len8tab[(x / 4294967296 / 256).toNat]'h).toNat : Nat) : Int)) = (Lib.bitLen x.toNat : Int) := by
  obtain ⟨t1, t2⟩ := tab8 (x / 4294967296 / 256).toNat h
  rw [t1]
  have e : (x / 4294967296 / 256).toNat = x.toNat / 1099511627776 := by omega
  have s := Lib.bitLen_shift 40 x.toNat (by omega) (by omega)
  rw [show (2 : Nat) ^ 40 = 1099511627776 from rfl] at s
  rw [e] at t2 ⊢
  rw [s]
  generalize Lib.bitLen (x.toNat / 1099511627776) = m at t2
  clear e s t1 h h0 h1 h2
  simp only [wrap64]
  omega

theorem k32 (x : Int) (h0 : 0 ≤ x) (h1 : x ≤ 18446744073709551615) (h2 : 4294967296 ≤ x) (h : (x / 4294967296).toNat < Lib.len8tab.size) (hb : x / 4294967296 ≤ 255) : wrap64 (32 + wrap64 (((Lib.len8tab[(x / 4294967296).toNat]'h).toNat : Nat) : Int)) = (Lib.bitLen x.toNat : Int) := by
  obtain ⟨t1, t2⟩ := tab8 (x / 4294967296).toNat h
  rw [t1]
  have e : (x / 4294967296).toNat = x.toNat / 4294967296 := by omega
  have s := Lib.bitLen_shift 32 x.toNat (by omega) (by omega)
  rw [show (2 : Nat) ^ 32 = 4294967296 from rfl] at s
  rw [e] at t2 ⊢
  rw [s]
  generalize Lib.bitLen (x.toNat / 4294967296) = m at t2
  clear e s t1 h h0 h1 h2
  simp only [wrap64]
  omega

theorem k24 (x : Int) (h0 : 0 ≤ x) (h1 : x ≤ 18446744073709551615) (h2 : 16777216 ≤ x) (h : (x / 65536 / 256).toNat < Lib.len8tab.size) (hb : x / 65536 / 256 ≤ 255) : wrap64 (24 + wrap64 (((Lib.len8tab[(x / 65536 / 256).toNat]'h).toNat : Nat) : Int)) = (Lib.bitLen x.toNat : Int) := by
  obtain ⟨t1, t2⟩ := tab8 (x / 65536 / 256).toNat h
  rw [t1]
  have e : (x / 65536 / 256).toNat = x.toNat / 16777216 := by omega
  have s := Lib.bitLen_shift 24 x.toNat (by omega) (by omega)
  rw [show (2 : Nat) ^ 24 = 16777216 from rfl] at s
  rw [e] at t2 ⊢
  rw [s]
  generalize Lib.bitLen (x.toNat / 16777216) = m at t2
  clear e s t1 h h0 h1 h2
  simp only [wrap64]
  omega

theorem k16 (x : Int) (h0 : 0 ≤ x) (h1 : x ≤ 18446744073709551615) (h2 : 65536 ≤ x) (h : (x / 65536).toNat < Lib.len8tab.size) (hb : x / 65536 ≤ 255) : wrap64 (16 + wrap64 (((Lib.len8tab[(x / 65536).toNat]'h).toNat : Nat) : Int)) = (Lib.bitLen x.toNat : Int) := by
  obtain ⟨t1, t2⟩ := tab8 (x / 65536).toNat h
  rw [t1]
  have e : (x / 65536).toNat = x.toNat / 65536 := by omega
  have s := Lib.bitLen_shift 16 x.toNat (by omega) (by omega)
  rw [show (2 : Nat) ^ 16 = 65536 from rfl] at s
  rw [e] at t2 ⊢
  rw [s]
  generalize Lib.bitLen (x.toNat / 65536) = m at t2
  clear e s t1 h h0 h1 h2
  simp only [wrap64]
  omega

theorem k8 (x : Int) (h0 : 0 ≤ x) (h1 : x ≤ 18446744073709551615) (h2 : 256 ≤ x) (h : (x / 256).toNat < Lib.len8tab.size) (hb : x / 256 ≤ 255) : wrap64 (8 + wrap64 (((Lib.len8tab[(x / 256).toNat]'h).toNat : Nat) : Int)) = (Lib.bitLen x.toNat : Int) := by
  obtain ⟨t1, t2⟩ := tab8 (x / 256).toNat h
  rw [t1]
  have e : (x / 256).toNat = x.toNat / 256 := by omega
  have s := Lib.bitLen_shift 8 x.toNat (by omega) (by omega)
  rw [show (2 : Nat) ^ 8 = 256 from rfl] at s
  rw [e] at t2 ⊢
  rw [s]
  generalize Lib.bitLen (x.toNat / 256) = m at t2
  clear e s t1 h h0 h1 h2
  simp only [wrap64]
  omega

theorem k0 (x : Int) (h0 : 0 ≤ x) (h1 : x ≤ 18446744073709551615) (h : x.toNat < Lib.len8tab.size) (hb : x ≤ 255) : wrap64 (wrap64 (((Lib.len8tab[x.toNat]'h).toNat : Nat) : Int)) = (Lib.bitLen x.toNat : Int) := by
  obtain ⟨t1, t2⟩ := tab8 x.toNat h
  rw [t1]
  generalize Lib.bitLen x.toNat = m at t2
  clear t1 h h0 h1
  simp only [wrap64]
  omega

set_option maxHeartbeats 8000000 in
set_option maxRecDepth 100000 in
theorem len64 (x : Int) (w : World) (h0 : 0 ≤ x) (h1 : x ≤ 18446744073709551615) :
    Calls Tryz.prog 83 #[.int .u64 x] w fun e w' => e = .returned (.int .i64 (Lib.bitLen x.toNat)) ∧ w' = w := by
  have hs := Lib.len8tab_size
  go_enter Tryz.func83, Tryz.ntmps83
  go_wp2
  all_goals first
    | (exfalso; omega)
    | skip
  all_goals (go_ret; refine ⟨congrArg Ending.returned (congrArg (Value.int IntKind.i64) ?_), rfl⟩)
  all_goals first
    | exact k56 x h0 h1 (by omega) _ (by omega)
    | exact k48 x h0 h1 (by omega) _ (by omega)
    | exact k40 x h0 h1 (by omega) _ (by omega)
    | exact k32 x h0 h1 (by omega) _ (by omega)
    | exact k24 x h0 h1 (by omega) _ (by omega)
    | exact k16 x h0 h1 (by omega) _ (by omega)
    | exact k8 x h0 h1 (by omega) _ (by omega)
    | exact k0 x h0 h1 _ (by omega)

noncomputable def libLen64 (Γ : List (Int × Int)) (ins : List InD) (n : Nat) : Sm1 := told1 (gLen64 (cxG n Γ ins))
theorem libLen64_ok (Γ : List (Int × Int)) (ins : List InD) (n : Nat) : Sm1Ok (cxG n Γ ins) 83 (libLen64 Γ ins n) := fun ρ β s s' w args r v hρ hs h hr => told1_ok (cx := cxG n Γ ins) (gLen64_ok rfl fun x w h0 h1 => len64 x w h0 h1) ρ β s s' w args r v hρ hs h hr
theorem fieldsC_ok : FieldsC Tryz.prog 51 0 9 := ⟨fun s w hs ha hT => Any.strings_Fields_core Tryz.lays157 (by kernel_rfl) s w hs ha hT⟩
noncomputable def libFields (Γ : List (Int × Int)) (ins : List InD) (n : Nat) : Sm1 := fieldsT (cxG n Γ ins) 0 9
theorem libFields_ok (Γ : List (Int × Int)) (ins : List InD) (n : Nat) : Sm1Ok (cxG n Γ ins) 51 (libFields Γ ins n) := fun ρ β s s' w args r v hρ hs h hr => fieldsT_ok (cx := cxG n Γ ins) fieldsC_ok ρ β s s' w args r v hρ hs h hr
theorem itoaC_ok : ItoaC Tryz.prog 18 4 := itoaC_of (by kernel_rfl) Tryz.strconv_Itoa
noncomputable def libItoa (Γ : List (Int × Int)) (ins : List InD) (n : Nat) : Sm1 := itoaT (cxG n Γ ins) 129 4
theorem libItoa_ok (Γ : List (Int × Int)) (ins : List InD) (n : Nat) : Sm1Ok (cxG n Γ ins) 18 (libItoa Γ ins n) := fun ρ β s s' w args r v hρ hs h hr => itoaT_ok (cx := cxG n Γ ins) itoaC_ok (fun _ _ _ => rfl) ρ β s s' w args r v hρ hs h hr
theorem atoiC_ok : AtoiC Tryz.prog 30 1 88 := atoiC_of Tryz.strconv_Atoi fun s hl h ev w hv hev => (Tryz.strconv_Atoi_err s hl h ev w hv hev).mono fun e w' ⟨N, he, _, _, hb⟩ => ⟨⟨N, he⟩, hb⟩
noncomputable def libAtoi (Γ : List (Int × Int)) (ins : List InD) (n : Nat) : Sm1 := atoiT (cxG n Γ ins) 130 131 1 88
theorem libAtoi_ok (Γ : List (Int × Int)) (ins : List InD) (n : Nat) : Sm1Ok (cxG n Γ ins) 30 (libAtoi Γ ins n) := fun ρ β s s' w args r v hρ hs h hr => atoiT_ok (cx := cxG n Γ ins) atoiC_ok (fun _ _ _ => rfl) (fun _ _ _ => rfl) ρ β s s' w args r v hρ hs h hr
theorem splitC_ok : SplitC Tryz.prog 31 5 9 := ⟨fun s c m w hs hm => Tryz.strings_Split s ⟨#[c]⟩ m w hs hm (Nat.le_refl 1)⟩
noncomputable def libSplit (Γ : List (Int × Int)) (ins : List InD) (n : Nat) : Sm1 := splitT (cxG n Γ ins) 132 133 5 9
theorem libSplit_ok (Γ : List (Int × Int)) (ins : List InD) (n : Nat) : Sm1Ok (cxG n Γ ins) 31 (libSplit Γ ins n) := fun ρ β s s' w args r v hρ hs h hr => splitT_ok (cx := cxG n Γ ins) splitC_ok (fun _ _ _ => rfl) (fun _ _ _ => rfl) ρ β s s' w args r v hρ hs h hr
theorem joinC_ok : JoinC Tryz.prog 37 := ⟨Tryz.strings_Join_none, Tryz.strings_Join⟩
noncomputable def libJoin (Γ : List (Int × Int)) (ins : List InD) (n : Nat) : Sm1 := joinT (cxG n Γ ins) 134 135
theorem libJoin_ok (Γ : List (Int × Int)) (ins : List InD) (n : Nat) : Sm1Ok (cxG n Γ ins) 37 (libJoin Γ ins n) := fun ρ β s s' w args r v hρ hs h hr => joinT_ok (cx := cxG n Γ ins) joinC_ok (fun _ _ _ => rfl) (fun _ _ _ => rfl) ρ β s s' w args r v hρ hs h hr
end Go.Proofs.YtppiabilakeadaaGreatDoor
