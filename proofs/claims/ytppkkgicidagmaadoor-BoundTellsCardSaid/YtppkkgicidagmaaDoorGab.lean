/-
  The program's tables of types, of functions and of all regions that draw their order, as trees; the engine at this program. Printed by program.
-/
import Derived.Test.YtppkkgicidagmaaDoorGu5
import Derived.Test.YtppkkgicidagmaaDoorRows
import Derived.WalkKit
import Derived.ProofKit
set_option linter.unusedVariables false
set_option linter.unusedSimpArgs false
namespace Go.Proofs.YtppkkgicidagmaaDoor
open Go Go.Eng Go.RowKit
set_option maxRecDepth 100000
noncomputable def tyB : BT TypeInfo := (.node 53 Tryd.t53 (.node 24 Tryd.t24 (.node 5 Tryd.t5 (.node 4 Tryd.t4 (.node 3 Tryd.t3 .nil .nil) .nil) (.node 22 Tryd.t22 (.node 9 Tryd.t9 .nil .nil) .nil)) (.node 42 Tryd.t42 (.node 40 Tryd.t40 (.node 28 Tryd.t28 .nil .nil) .nil) (.node 43 Tryd.t43 .nil .nil))) (.node 70 Tryd.t70 (.node 68 Tryd.t68 (.node 66 Tryd.t66 (.node 64 Tryd.t64 .nil .nil) .nil) (.node 69 Tryd.t69 .nil .nil)) (.node 82 Tryd.t82 (.node 77 Tryd.t77 (.node 71 Tryd.t71 .nil .nil) .nil) (.node 85 Tryd.t85 .nil .nil))))
theorem tyB_ok : tyB.All fun i v => Tryd.prog.info? i = some v := ⟨Tryd.type53, ⟨Tryd.type24, ⟨Tryd.type5, ⟨Tryd.type4, ⟨Tryd.type3, trivial, trivial⟩, trivial⟩, ⟨Tryd.type22, ⟨Tryd.type9, trivial, trivial⟩, trivial⟩⟩, ⟨Tryd.type42, ⟨Tryd.type40, ⟨Tryd.type28, trivial, trivial⟩, trivial⟩, ⟨Tryd.type43, trivial, trivial⟩⟩⟩, ⟨Tryd.type70, ⟨Tryd.type68, ⟨Tryd.type66, ⟨Tryd.type64, trivial, trivial⟩, trivial⟩, ⟨Tryd.type69, trivial, trivial⟩⟩, ⟨Tryd.type82, ⟨Tryd.type77, ⟨Tryd.type71, trivial, trivial⟩, trivial⟩, ⟨Tryd.type85, trivial, trivial⟩⟩⟩⟩
noncomputable def fuB : BT Func := (.node 41 Tryd.f41 (.node 22 Tryd.f22 (.node 8 Tryd.f8 (.node 5 Tryd.f5 (.node 4 Tryd.f4 (.node 3 Tryd.f3 .nil .nil) .nil) (.node 7 Tryd.f7 (.node 6 Tryd.f6 .nil .nil) .nil)) (.node 14 Tryd.f14 (.node 12 Tryd.f12 (.node 11 Tryd.f11 .nil .nil) .nil) (.node 20 Tryd.f20 (.node 16 Tryd.f16 .nil .nil) .nil))) (.node 35 Tryd.f35 (.node 26 Tryd.f26 (.node 24 Tryd.f24 (.node 23 Tryd.f23 .nil .nil) .nil) (.node 34 Tryd.f34 (.node 33 Tryd.f33 .nil .nil) .nil)) (.node 39 Tryd.f39 (.node 38 Tryd.f38 (.node 37 Tryd.f37 .nil .nil) .nil) (.node 40 Tryd.f40 .nil .nil)))) (.node 56 Tryd.f56 (.node 50 Tryd.f50 (.node 47 Tryd.f47 (.node 46 Tryd.f46 (.node 42 Tryd.f42 .nil .nil) .nil) (.node 49 Tryd.f49 (.node 48 Tryd.f48 .nil .nil) .nil)) (.node 53 Tryd.f53 (.node 52 Tryd.f52 (.node 51 Tryd.f51 .nil .nil) .nil) (.node 55 Tryd.f55 (.node 54 Tryd.f54 .nil .nil) .nil))) (.node 62 Tryd.f62 (.node 59 Tryd.f59 (.node 58 Tryd.f58 (.node 57 Tryd.f57 .nil .nil) .nil) (.node 61 Tryd.f61 (.node 60 Tryd.f60 .nil .nil) .nil)) (.node 73 Tryd.f73 (.node 69 Tryd.f69 (.node 63 Tryd.f63 .nil .nil) .nil) (.node 79 Tryd.f79 .nil .nil)))))
theorem fuB_ok : fuB.All fun i v => Tryd.prog.funcs[i]? = some v := ⟨Tryd.func41, ⟨Tryd.func22, ⟨Tryd.func8, ⟨Tryd.func5, ⟨Tryd.func4, ⟨Tryd.func3, trivial, trivial⟩, trivial⟩, ⟨Tryd.func7, ⟨Tryd.func6, trivial, trivial⟩, trivial⟩⟩, ⟨Tryd.func14, ⟨Tryd.func12, ⟨Tryd.func11, trivial, trivial⟩, trivial⟩, ⟨Tryd.func20, ⟨Tryd.func16, trivial, trivial⟩, trivial⟩⟩⟩, ⟨Tryd.func35, ⟨Tryd.func26, ⟨Tryd.func24, ⟨Tryd.func23, trivial, trivial⟩, trivial⟩, ⟨Tryd.func34, ⟨Tryd.func33, trivial, trivial⟩, trivial⟩⟩, ⟨Tryd.func39, ⟨Tryd.func38, ⟨Tryd.func37, trivial, trivial⟩, trivial⟩, ⟨Tryd.func40, trivial, trivial⟩⟩⟩⟩, ⟨Tryd.func56, ⟨Tryd.func50, ⟨Tryd.func47, ⟨Tryd.func46, ⟨Tryd.func42, trivial, trivial⟩, trivial⟩, ⟨Tryd.func49, ⟨Tryd.func48, trivial, trivial⟩, trivial⟩⟩, ⟨Tryd.func53, ⟨Tryd.func52, ⟨Tryd.func51, trivial, trivial⟩, trivial⟩, ⟨Tryd.func55, ⟨Tryd.func54, trivial, trivial⟩, trivial⟩⟩⟩, ⟨Tryd.func62, ⟨Tryd.func59, ⟨Tryd.func58, ⟨Tryd.func57, trivial, trivial⟩, trivial⟩, ⟨Tryd.func61, ⟨Tryd.func60, trivial, trivial⟩, trivial⟩⟩, ⟨Tryd.func73, ⟨Tryd.func69, ⟨Tryd.func63, trivial, trivial⟩, trivial⟩, ⟨Tryd.func79, trivial, trivial⟩⟩⟩⟩⟩
def rt12 : BT (List Row) := (.node 13 [⟨0, 0⟩, ⟨0, 0⟩, ⟨0, 0⟩, ⟨0, 0⟩, ⟨12, 12⟩, ⟨16, 16⟩, ⟨35, 35⟩, ⟨0, 0⟩, ⟨0, 0⟩, ⟨0, 0⟩, ⟨768, 768⟩, ⟨1024, 1024⟩, ⟨2240, 2176⟩, ⟨4160, 4160⟩, ⟨16383, 8192⟩] .nil .nil)
theorem rw12 : RowAt Tryd.prog 12 rt12 := rowAt_of Tryd.func12 (by kernel_rfl)
def rt14 : BT (List Row) := (.node 14 [⟨0, 0⟩, ⟨0, 0⟩, ⟨0, 0⟩, ⟨0, 0⟩, ⟨0, 0⟩, ⟨24, 24⟩, ⟨32, 32⟩, ⟨70, 70⟩, ⟨129, 129⟩, ⟨511, 257⟩] .nil .nil)
theorem rw14 : RowAt Tryd.prog 14 rt14 := rowAt_of Tryd.func14 (by kernel_rfl)
def rt35 : BT (List Row) := (.node 8 [⟨0, 0⟩, ⟨0, 0⟩, ⟨2, 2⟩, ⟨4, 4⟩, ⟨8, 8⟩, ⟨16, 16⟩, ⟨32, 32⟩, ⟨0, 0⟩, ⟨128, 128⟩, ⟨256, 256⟩, ⟨512, 512⟩, ⟨1088, 1088⟩, ⟨0, 0⟩, ⟨4096, 4096⟩, ⟨10240, 10240⟩, ⟨16385, 16385⟩, ⟨65535, 32769⟩] .nil .nil)
theorem rw35 : RowAt Tryd.prog 35 rt35 := rowAt_of Tryd.func35 (by kernel_rfl)
def rt58 : BT (List Row) := (.node 11 [⟨0, 0⟩, ⟨0, 0⟩, ⟨3, 3⟩, ⟨4, 4⟩, ⟨0, 0⟩, ⟨0, 0⟩, ⟨32, 32⟩, ⟨80, 80⟩, ⟨128, 128⟩, ⟨264, 264⟩] (.node 6 [⟨0, 0⟩, ⟨0, 0⟩, ⟨3, 3⟩, ⟨4, 4⟩, ⟨0, 0⟩, ⟨0, 0⟩, ⟨32, 32⟩, ⟨80, 80⟩, ⟨128, 128⟩, ⟨264, 264⟩] .nil .nil) .nil)
theorem rw58 : RowAt Tryd.prog 58 rt58 := rowAt_of Tryd.func58 (by kernel_rfl)
def rt61 : BT (List Row) := (.node 17 [⟨0, 0⟩, ⟨1, 1⟩, ⟨2, 2⟩, ⟨4, 4⟩, ⟨4, 4⟩, ⟨20, 20⟩, ⟨44, 44⟩, ⟨68, 68⟩, ⟨4, 4⟩, ⟨4, 4⟩, ⟨772, 772⟩, ⟨1028, 1028⟩, ⟨2180, 2180⟩, ⟨4100, 4100⟩, ⟨8196, 8196⟩] .nil .nil)
theorem rw61 : RowAt Tryd.prog 61 rt61 := rowAt_of Tryd.func61 (by kernel_rfl)
def rt63 : BT (List Row) := (.node 6 [⟨0, 0⟩, ⟨0, 0⟩, ⟨0, 0⟩, ⟨0, 0⟩, ⟨8, 8⟩, ⟨0, 0⟩, ⟨0, 0⟩, ⟨64, 64⟩, ⟨160, 160⟩, ⟨256, 256⟩, ⟨0, 0⟩, ⟨0, 0⟩, ⟨3072, 3072⟩, ⟨4096, 4096⟩, ⟨9187, 3⟩, ⟨25571, 16896⟩, ⟨65535, 20⟩, ⟨131071, 73728⟩] (.node 4 [⟨0, 0⟩, ⟨0, 0⟩, ⟨3, 3⟩, ⟨4, 4⟩, ⟨8, 8⟩, ⟨8, 8⟩, ⟨56, 56⟩, ⟨72, 72⟩, ⟨8, 8⟩, ⟨8, 8⟩, ⟨520, 520⟩, ⟨1288, 1288⟩, ⟨2056, 2056⟩, ⟨4232, 4232⟩, ⟨8200, 8200⟩] .nil .nil) .nil)
theorem rw63 : RowAt Tryd.prog 63 rt63 := rowAt_of Tryd.func63 (by kernel_rfl)
def rtB : RowT := (.node 58 rt58 (.node 14 rt14 (.node 12 rt12 .nil .nil) (.node 35 rt35 .nil .nil)) (.node 63 rt63 (.node 61 rt61 .nil .nil) .nil))
theorem rtB_ok : RtsOk Tryd.prog (rtsB rtB) := rtsB_ok ⟨rw58, ⟨rw14, ⟨rw12, trivial, trivial⟩, ⟨rw35, trivial, trivial⟩⟩, ⟨rw63, ⟨rw61, trivial, trivial⟩, trivial⟩⟩

theorem own : ownKnob Tryd.prog.godebug = none := by kernel_rfl
theorem laidOut : laidOutB Tryd.prog = true := by kernel_rfl
theorem nogo : (Tryd.prog.funcs.all fun fn => fn.name != "runtime.NumGoroutine") = true := by kernel_rfl
theorem mixedOk : Tryd.prog.follows .mixedOrders = true := by kernel_rfl
/-- the types whose values are compared with no panic -/
noncomputable def seqB (t : TypeId) : Bool := !Tryd.prog.eqGuardType Tryd.prog.depth t && !Tryd.prog.stoodInHeld t
/-- the tables that the row lays, as rows that come in -/
def tabsL : List InD := [⟨[.int .i64], qZw [.c 1, .c 1, .c 1, .c 1, .c 1, .c 1, .c 1, .c 1, .c 1, .c 1, .c 1, .c 1, .c 1, .c 1, .c 1, .c 1, .c 1, .c 3, .c 3, .c 3, .c 3, .c 2, .c 2, .c 1, .c 1, .c 1, .c 1, .c 1, .c 1, .c 1, .c 1, .c 1, .c 1, .c 2, .c 2, .c 1, .c 1, .c 1, .c 3, .c 3, .c 3, .c 1, .c 1], .c 43, .c 43, some 0⟩]
/-- n: how deep a number may be without a name (0: none is named) -/
noncomputable def cxOf (n : Nat) : Cx :=
  { P := Tryd.prog, Γ := [], Φ := phiN, F := fN, lf := lfN, ins := [], tabs := tabsL, sh := n, und := undB tyB, inf := infB tyB, fn := fnB fuB, seq := seqB,
    undOk := undB_ok tyB_ok, infOk := fun _ _ h => BT.find_all tyB_ok h, fnOk := fun _ _ h => BT.find_all fuB_ok h,
    seqOk := fun t h => by unfold seqB at h; simpa using h }
theorem cxOf_ok (n : Nat) (m : Rc) : CxOk (m.cx (cxOf n)) :=
  ⟨mixedOk, fun f fn h => by
    have h1 := Array.all_eq_true.1 nogo
    obtain ⟨h2, h3⟩ := Array.getElem?_eq_some_iff.1 h
    have := h1 f h2
    have h4 : (Tryd.prog.funcs[f]'h2) = fn := h3
    rw [h4] at this
    simpa using this⟩
/-- the same, with what comes in -/
noncomputable def cxG (n : Nat) (Γ : List (Int × Int)) (ins : List InD) : Cx := { cxOf n with Γ := Γ, ins := ins ++ tabsL }
theorem tabsAll : (tabsL.all fun d => d.c.vb 0 && (d.n.vb 0 && d.cap.vb 0)) = true := by kernel_rfl
theorem tabsG (n : Nat) (Γ : List (Int × Int)) (ins : List InD) : qKb (cxG n Γ ins) := ⟨⟨ins, rfl⟩, fun d hd => by have := List.all_eq_true.1 tabsAll d hd; simp only [Bool.and_eq_true] at this; exact this⟩
theorem cxG_ok (n : Nat) (Γ : List (Int × Int)) (ins : List InD) : CxOk (cxG n Γ ins) :=
  ⟨mixedOk, fun f fn h => by
    have h1 := Array.all_eq_true.1 nogo
    obtain ⟨h2, h3⟩ := Array.getElem?_eq_some_iff.1 h
    have := h1 f h2
    have h4 : (Tryd.prog.funcs[f]'h2) = fn := h3
    rw [h4] at this
    simpa using this⟩
/-- a contract holds however much is named, and whatever else comes in -/
theorem rc_n {n k : Nat} {Γ : List (Int × Int)} {ins : List InD} {m : Rc} (h : RcOk (cxOf n) m) : RcOk (cxG k Γ ins) m :=
  fun ρ w hρ hc hp hr => h ρ w ⟨hρ.hi, hρ.hf, hρ.hv, hρ.hF, hρ.hP, hρ.hro⟩ hc hp hr
theorem rh_n {n k : Nat} {Γ : List (Int × Int)} {ins : List InD} {m : Rh} (h : RhOk (cxOf n) m) : RhOk (cxG k Γ ins) m :=
  fun ρ β w hρ hp hs => h ρ β w ⟨hρ.hi, hρ.hf, hρ.hv, hρ.hF, hρ.hP, hρ.hro⟩ hp hs
theorem mg {α : Type} {l : List α} {a : α} (i : Nat) (h : l[i]? = some a) : a ∈ l := List.mem_of_getElem? h
/-- the engine's runs -/
abbrev SMs := List (Int × Int) → List InD → Nat → SM
def SMsOk (sm : SMs) : Prop := ∀ Γ ins n, SmOk (cxG n Γ ins) (sm Γ ins n)
noncomputable def runC (sm : SMs) (Γ : List (Int × Int)) (ins : List InD) (n : Nat) : CF := execFn (cxG n Γ ins) (rtsB rtB) (sm Γ ins n) (fun _ _ => none) 40 30
theorem xok0 (cx : Cx) : XOk cx (fun _ _ => none) := fun _ _ _ _ _ _ _ h => by cases h
theorem runC_ok {sm : SMs} (h : SMsOk sm) (Γ : List (Int × Int)) (ins : List InD) (n : Nat) : qKc (cxG n Γ ins) (runC sm Γ ins n) := execFn_ok (cxG_ok n Γ ins) rtB_ok (h Γ ins n) (xok0 _) _
noncomputable def runG (sm : SMs) (lhs : LHS) (Γ : List (Int × Int)) (ins : List InD) (n : Nat) : CFT := execFnT (cxG n Γ ins) (rtsB rtB) (sm Γ ins n) (fun _ _ => none) lhs (runC sm Γ ins n) 40 30
theorem runG_ok {sm : SMs} (h : SMsOk sm) (lhs : LHS) (Γ : List (Int × Int)) (ins : List InD) (n : Nat) : qJy (cxG n Γ ins) (runG sm lhs Γ ins n) :=
  execFnT_ok (cxG_ok n Γ ins) rtB_ok (h Γ ins n) (xok0 _) (runC_ok h Γ ins n) _
noncomputable def runT (sm : SMs) (lhs : LHS) (m : Rc) (n : Nat) : CFT := runG sm lhs (bdsF m.ls) (qXw m.b m.c m.ls 0 0 0) n
theorem runT_ok {sm : SMs} (h : SMsOk sm) (lhs : LHS) (m : Rc) (n : Nat) : qJy (m.cx (cxOf n)) (runT sm lhs m n) := runG_ok h lhs _ _ n
noncomputable def runH (sm : SMs) (lhs : LHS) (m : Rk) (n : Nat) : CFT := runG sm lhs m.Γ m.ins n
theorem runH_ok {sm : SMs} (h : SMsOk sm) (lhs : LHS) (m : Rk) (n : Nat) : qJy (m.rh.cx (cxOf n)) (runH sm lhs m n) := runG_ok h lhs m.Γ m.ins n
/-! the parts of a contract's proof -/
noncomputable def fineR (n : Nat) (m : Rc) (t : TT (List E)) : Bool := TT.fine (m.cx (cxOf n)) 1000 [] t && (m.cx (cxOf n)).okB 1000 && SV.vbL 1000 m.args && TT.tidy (m.cx (cxOf n)) [] t
noncomputable def ranR (us : SMs) (lhs : LHS) (m : Rc) (n : Nat) (t : TT (List E)) : Bool := TT.beq (projL (m.pj (cxOf n)) (runT us lhs m n m.f m.args ⟨[], m.kn0⟩)) t
def statR (n : Nat) (m : Rc) (t : TT (List E)) (ρ : Env) : Prop := TT.hdP (m.cx (cxOf n)) (rlF ρ m.res) t ρ
theorem okR {us : SMs} {lhs : LHS} {m : Rc} {n : Nat} {t : TT (List E)} (hu : SMsOk us) (h1 : ranR us lhs m n t = true) (h2 : fineR n m t = true) (h3 : m.ok = true)
    (h : ∀ i v ro p, EnvOk (m.cx (cxOf n)) ⟨i, fN, v, ro, p⟩ → (∀ d ∈ qXw m.b m.c m.ls 0 0 0, d.n.ev ⟨i, fN, v, ro, p⟩ ≤ d.cap.ev ⟨i, fN, v, ro, p⟩) → (∀ e ∈ m.pre, e.evP ⟨i, fN, v, ro, p⟩ ≠ 0) → statR n m t ⟨i, fN, v, ro, p⟩) : RcOk (cxOf n) m :=
  rc_run (runT_ok hu lhs m n) h1 h2 h3 fun ρ hρ hcap hpre => by
    obtain ⟨i, f, v, ro, p⟩ := ρ
    have hf : f = fN := hρ.hF
    subst hf
    exact h i v ro p hρ hcap hpre
noncomputable def fineH (n : Nat) (m : Rk) (t : TT (List E)) : Bool := TT.fine (m.rh.cx (cxOf n)) 1000 [] t && (m.rh.cx (cxOf n)).okB 1000 && SV.vbL 1000 m.args && TT.tidy (m.rh.cx (cxOf n)) [] t
noncomputable def ranH (us : SMs) (lhs : LHS) (m : Rk) (n : Nat) (t : TT (List E)) : Bool := TT.beq (projL (m.pj (cxOf n)) (runH us lhs m n m.f m.args ⟨m.inb, m.kn0⟩)) t
def statH (n : Nat) (m : Rk) (t : TT (List E)) (ρ : Env) : Prop := TT.hdP (m.rh.cx (cxOf n)) (rsF ρ m.rs) t ρ
theorem okH {us : SMs} {lhs : LHS} {m : Rk} {n : Nat} {t : TT (List E)} (hu : SMsOk us) (h1 : ranH us lhs m n t = true) (h2 : fineH n m t = true) (h4 : blVb 1000 m.inb = true) (h3 : m.ok = true)
    (h : ∀ i v ro p, EnvOk (m.rh.cx (cxOf n)) ⟨i, fN, v, ro, p⟩ → (∀ e ∈ m.pre, e.evP ⟨i, fN, v, ro, p⟩ ≠ 0) → statH n m t ⟨i, fN, v, ro, p⟩) : RhOk (cxOf n) m.rh :=
  rk_run (runH_ok hu lhs m n) h1 h2 h4 h3 fun ρ hρ hpre => by
    obtain ⟨i, f, v, ro, p⟩ := ρ
    have hf : f = fN := hρ.hF
    subst hf
    exact h i v ro p hρ hpre
theorem den_row (ρ : Env) (β : Bt) (k z i j : Nat) : (SV.sl (.inp k) z (.c 0) (.v i) (some (.v j))).den ρ β = .slice (ρ.ro k).a (ρ.i i).toNat (ρ.i j).toNat := by
  simp only [SV.den, E.ev, qXo]
end Go.Proofs.YtppkkgicidagmaaDoor
