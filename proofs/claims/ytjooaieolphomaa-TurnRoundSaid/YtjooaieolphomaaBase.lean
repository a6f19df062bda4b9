/-
  The engine at this seat's program: what it asks of a program, and the contract of math/bits.Len32.
-/
import Derived.Test.YtjooaieolphomaaRts
import Derived.WalkKit
import Derived.ProofKit
import Derived.Lib.Walk
import Derived.Lib.Small
import Derived.Lib.Tables
set_option linter.unusedVariables false
set_option linter.unusedSimpArgs false
namespace Go.Proofs.Ytjooaieolphomaa
open Go.Eng Go.RowKit

theorem nogo : (Try.prog.funcs.all fun fn => fn.name != "runtime.NumGoroutine") = true := by kernel_rfl
theorem mixedOk : Try.prog.follows .mixedOrders = true := by kernel_rfl

def i32 : Int × Int := (-2147483648, 2147483647)
set_option maxRecDepth 100000 in
/-- n: how deep a number may be without a name (0: none is named) -/
noncomputable def cxOf (n : Nat) (l : List (Int × Int)) : Cx :=
  { P := Try.prog, Γ := l, Φ := phiN, F := fN, sh := n, und := undB tyB, inf := infB tyB, fn := fnB fuB,
    undOk := undB_ok tyB_ok, infOk := fun _ _ h => BT.find_all tyB_ok h, fnOk := fun _ _ h => BT.find_all fuB_ok h }
set_option maxRecDepth 100000 in
theorem cxOf_ok (n : Nat) (l : List (Int × Int)) : CxOk (cxOf n l) :=
  ⟨mixedOk, fun f fn h => by
    have h1 := Array.all_eq_true.1 nogo
    obtain ⟨h2, h3⟩ := Array.getElem?_eq_some_iff.1 h
    have := h1 f h2
    have h4 : (Try.prog.funcs[f]'h2) = fn := h3
    rw [h4] at this
    simpa using this⟩

def ptr0 : Value := .pointer (some ⟨0, 0, none⟩)
/-- the arguments as an environment -/
def envOf (l : List Int) : Env := ⟨fun i => l.getD i 0, fN, fun _ => ptr0⟩
theorem envOf_ok {l : List Int} {g : List (Int × Int)} (h : ∀ i p, g[i]? = some p → p.1 ≤ l.getD i 0 ∧ l.getD i 0 ≤ p.2)  {n : Nat} : EnvOk (cxOf n g) (envOf l) :=
  ⟨h, fun n p x y z h => phiN_ok n p x y z h, fun _ => ⟨_, rfl⟩, rfl⟩
abbrev Bnd (g : List (Int × Int)) (l : List Int) : Prop := ∀ i p, g[i]? = some p → p.1 ≤ l.getD i 0 ∧ l.getD i 0 ≤ p.2
theorem bnd_nil (l : List Int) : Bnd [] l := fun i p h => by simp at h
theorem bnd_cons {p : Int × Int} {g : List (Int × Int)} {x : Int} {l : List Int} (h : p.1 ≤ x ∧ x ≤ p.2) (ht : Bnd g l) : Bnd (p :: g) (x :: l)
  | 0, q, hq => by cases hq; exact h
  | i + 1, q, hq => by simpa using ht i q (by simpa using hq)
theorem i32_of {x : Int} (h : (Lit.int .i32 x).wf = true) : -2147483648 ≤ x ∧ x ≤ 2147483647 := by
  simpa [Lit.wf, IntKind.min, IntKind.max, IntKind.bits, IntKind.signed] using h

theorem tab8 (i : Nat) (h : i < Lib.len8tab.size) : (((Lib.len8tab[i]'h).toNat : Nat) : Int) = (Lib.bitLen i : Int) ∧ (Lib.bitLen i : Int) ≤ 8 := by
  have hs := Lib.len8tab_size
  have h1 := Lib.len8_of (i : Int) (by omega) (by omega)
  have h2 := Lib.bitLen_le8' (i : Int) (by omega) (by omega)
  rw [Int.toNat_natCast] at h1 h2
  refine ⟨?_, by omega⟩
  rw [← h1]
  simp [Lib.len8, h]

theorem l24 (x : Int) (h0 : 0 ≤ x) (h1 : x ≤ 4294967295) (h2 : 16777216 ≤ x) (h : (x / 65536 / 256).toNat < Lib.len8tab.size) : wrap64 (24 + wrap64 (((Lib.len8tab[(x / 65536 / 256).toNat]'h).toNat : Nat) : Int)) = (Lib.bitLen x.toNat : Int) := by
  obtain ⟨t1, t2⟩ := tab8 (x / 65536 / 256).toNat h
  rw [t1]
  have e : (x / 65536 / 256).toNat = x.toNat / 16777216 := by omega
  have s := Lib.bitLen_shift24 x.toNat (by omega) (by omega)
  rw [e] at t2 ⊢
  rw [s]
  generalize Lib.bitLen (x.toNat / 16777216) = m at t2
  clear e s t1 h h0 h1 h2
  simp only [wrap64]
  omega

theorem l16 (x : Int) (h0 : 0 ≤ x) (h1 : x ≤ 4294967295) (h2 : 65536 ≤ x) (h : (x / 65536).toNat < Lib.len8tab.size) : wrap64 (16 + wrap64 (((Lib.len8tab[(x / 65536).toNat]'h).toNat : Nat) : Int)) = (Lib.bitLen x.toNat : Int) := by
  obtain ⟨t1, t2⟩ := tab8 (x / 65536).toNat h
  rw [t1]
  have e : (x / 65536).toNat = x.toNat / 65536 := by omega
  have s := Lib.bitLen_shift16 x.toNat (by omega) (by omega)
  rw [e] at t2 ⊢
  rw [s]
  generalize Lib.bitLen (x.toNat / 65536) = m at t2
  clear e s t1 h h0 h1 h2
  simp only [wrap64]
  omega

theorem l8 (x : Int) (h0 : 0 ≤ x) (h1 : x ≤ 4294967295) (h2 : 256 ≤ x) (h : (x / 256).toNat < Lib.len8tab.size) : wrap64 (8 + wrap64 (((Lib.len8tab[(x / 256).toNat]'h).toNat : Nat) : Int)) = (Lib.bitLen x.toNat : Int) := by
  obtain ⟨t1, t2⟩ := tab8 (x / 256).toNat h
  rw [t1]
  have e : (x / 256).toNat = x.toNat / 256 := by omega
  have s := Lib.bitLen_shift8 x.toNat (by omega) (by omega)
  rw [e] at t2 ⊢
  rw [s]
  generalize Lib.bitLen (x.toNat / 256) = m at t2
  clear e s t1 h h0 h1 h2
  simp only [wrap64]
  omega

theorem l0 (x : Int) (h0 : 0 ≤ x) (h1 : x ≤ 4294967295) (h2 : 0 ≤ x) (h : x.toNat < Lib.len8tab.size) : wrap64 (wrap64 (((Lib.len8tab[x.toNat]'h).toNat : Nat) : Int)) = (Lib.bitLen x.toNat : Int) := by
  obtain ⟨t1, t2⟩ := tab8 x.toNat h
  rw [t1]
  generalize Lib.bitLen x.toNat = m at t2
  clear t1 h h0 h1 h2
  simp only [wrap64]
  omega

set_option maxHeartbeats 4000000 in
set_option maxRecDepth 100000 in
theorem len32 (x : Int) (w : World) (h0 : 0 ≤ x) (h1 : x ≤ 4294967295) :
    Calls Try.prog 111 #[.int .u32 x] w fun e w' => e = .returned (.int .i64 (Lib.bitLen x.toNat)) ∧ w' = w := by
  have hs := Lib.len8tab_size
  go_enter Try.func111, Try.ntmps111
  go_wp2
  all_goals first
    | (exfalso; omega)
    | skip
  all_goals (go_ret; refine ⟨congrArg Ending.returned (congrArg (Value.int IntKind.i64) ?_), rfl⟩)
  all_goals first
    | exact l24 x h0 h1 (by omega) _
    | exact l16 x h0 h1 (by omega) _
    | exact l8 x h0 h1 (by omega) _
    | exact l0 x h0 h1 (by omega) _

/-- a template holds however much is named -/
theorem tmpl_n {n m : Nat} {l : List (Int × Int)} {f : FuncId} {rc : Option TypeId} {ps : List SV} {res : SV} (h : TmplOk (cxOf n l) f rc ps res) : TmplOk (cxOf m l) f rc ps res :=
  fun ρ w hρ => h ρ w ⟨hρ.hi, hρ.hf, hρ.hv, hρ.hF⟩

noncomputable def toldB (n : Nat) (l : List (Int × Int)) : Eng.Told := [(111, gLen (cxOf n l))]
theorem toldB_ok (n : Nat) (l : List (Int × Int)) : ToldOk (cxOf n l) (toldB n l) := told_cons (gLen_ok rfl len32) (told_nil _)

theorem tree_n {n m : Nat} {l : List (Int × Int)} {x : Sm} (h : TreeOk (cxOf n l) x) : TreeOk (cxOf m l) x :=
  fun ρ w v hρ hv => h ρ w v ⟨hρ.hi, hρ.hf, hρ.hv, hρ.hF⟩ hv
noncomputable def smB (n : Nat) (l : List (Int × Int)) : SM := smOf (toldB n l)
theorem smB_ok (n : Nat) (l : List (Int × Int)) : SmOk (cxOf n l) (smB n l) := smOf_ok (toldB_ok n l)

/-- the engine's run -/
noncomputable def runOf (sm : Nat → List (Int × Int) → SM) (n : Nat) (l : List (Int × Int)) : CF := execFn (cxOf n l) (rtsB rtB) (sm n l) (fun _ _ => none) 40 30
theorem runOf_ok {sm : Nat → List (Int × Int) → SM} (h : ∀ n l, SmOk (cxOf n l) (sm n l)) (n : Nat) (l : List (Int × Int)) : CallOk (cxOf n l) (runOf sm n l) := execFn_ok (cxOf_ok n l) rtB_ok (h n l) (xok_none _) _
end Go.Proofs.Ytjooaieolphomaa
