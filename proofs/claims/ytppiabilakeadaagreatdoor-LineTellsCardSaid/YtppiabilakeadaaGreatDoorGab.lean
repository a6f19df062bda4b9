/-
  The program's tables of types, of functions and of all regions that draw their order, as trees; the engine at this program. Printed by program.
-/
import Derived.Test.YtppiabilakeadaaGreatDoorGu5
import Derived.Test.YtppiabilakeadaaGreatDoorRows
import Derived.WalkKit
import Derived.ProofKit
set_option linter.unusedVariables false
set_option linter.unusedSimpArgs false
namespace Go.Proofs.YtppiabilakeadaaGreatDoor
open Go Go.Eng Go.RowKit
set_option maxRecDepth 100000
noncomputable def tyB : BT TypeInfo := (.node 45 Tryz.t45 (.node 23 Tryz.t23 (.node 5 Tryz.t5 (.node 4 Tryz.t4 (.node 3 Tryz.t3 .nil .nil) .nil) (.node 22 Tryz.t22 (.node 9 Tryz.t9 .nil .nil) .nil)) (.node 38 Tryz.t38 (.node 33 Tryz.t33 (.node 25 Tryz.t25 .nil .nil) .nil) (.node 43 Tryz.t43 (.node 39 Tryz.t39 .nil .nil) .nil))) (.node 54 Tryz.t54 (.node 50 Tryz.t50 (.node 49 Tryz.t49 (.node 46 Tryz.t46 .nil .nil) .nil) (.node 53 Tryz.t53 (.node 51 Tryz.t51 .nil .nil) .nil)) (.node 61 Tryz.t61 (.node 60 Tryz.t60 (.node 58 Tryz.t58 .nil .nil) .nil) (.node 63 Tryz.t63 (.node 62 Tryz.t62 .nil .nil) .nil))))
theorem tyB_ok : tyB.All fun i v => Tryz.prog.info? i = some v := ⟨Tryz.type45, ⟨Tryz.type23, ⟨Tryz.type5, ⟨Tryz.type4, ⟨Tryz.type3, trivial, trivial⟩, trivial⟩, ⟨Tryz.type22, ⟨Tryz.type9, trivial, trivial⟩, trivial⟩⟩, ⟨Tryz.type38, ⟨Tryz.type33, ⟨Tryz.type25, trivial, trivial⟩, trivial⟩, ⟨Tryz.type43, ⟨Tryz.type39, trivial, trivial⟩, trivial⟩⟩⟩, ⟨Tryz.type54, ⟨Tryz.type50, ⟨Tryz.type49, ⟨Tryz.type46, trivial, trivial⟩, trivial⟩, ⟨Tryz.type53, ⟨Tryz.type51, trivial, trivial⟩, trivial⟩⟩, ⟨Tryz.type61, ⟨Tryz.type60, ⟨Tryz.type58, trivial, trivial⟩, trivial⟩, ⟨Tryz.type63, ⟨Tryz.type62, trivial, trivial⟩, trivial⟩⟩⟩⟩
noncomputable def fuB : BT Func := (.node 26 Tryz.f26 (.node 14 Tryz.f14 (.node 8 Tryz.f8 (.node 5 Tryz.f5 (.node 4 Tryz.f4 (.node 3 Tryz.f3 .nil .nil) .nil) (.node 7 Tryz.f7 (.node 6 Tryz.f6 .nil .nil) .nil)) (.node 11 Tryz.f11 (.node 10 Tryz.f10 (.node 9 Tryz.f9 .nil .nil) .nil) (.node 13 Tryz.f13 (.node 12 Tryz.f12 .nil .nil) .nil))) (.node 20 Tryz.f20 (.node 17 Tryz.f17 (.node 16 Tryz.f16 (.node 15 Tryz.f15 .nil .nil) .nil) (.node 19 Tryz.f19 (.node 18 Tryz.f18 .nil .nil) .nil)) (.node 23 Tryz.f23 (.node 22 Tryz.f22 (.node 21 Tryz.f21 .nil .nil) .nil) (.node 25 Tryz.f25 (.node 24 Tryz.f24 .nil .nil) .nil)))) (.node 39 Tryz.f39 (.node 32 Tryz.f32 (.node 29 Tryz.f29 (.node 28 Tryz.f28 (.node 27 Tryz.f27 .nil .nil) .nil) (.node 31 Tryz.f31 (.node 30 Tryz.f30 .nil .nil) .nil)) (.node 35 Tryz.f35 (.node 34 Tryz.f34 (.node 33 Tryz.f33 .nil .nil) .nil) (.node 38 Tryz.f38 (.node 37 Tryz.f37 .nil .nil) .nil))) (.node 48 Tryz.f48 (.node 42 Tryz.f42 (.node 41 Tryz.f41 (.node 40 Tryz.f40 .nil .nil) .nil) (.node 47 Tryz.f47 (.node 46 Tryz.f46 .nil .nil) .nil)) (.node 51 Tryz.f51 (.node 50 Tryz.f50 (.node 49 Tryz.f49 .nil .nil) .nil) (.node 57 Tryz.f57 (.node 56 Tryz.f56 .nil .nil) .nil)))))
theorem fuB_ok : fuB.All fun i v => Tryz.prog.funcs[i]? = some v := ⟨Tryz.func26, ⟨Tryz.func14, ⟨Tryz.func8, ⟨Tryz.func5, ⟨Tryz.func4, ⟨Tryz.func3, trivial, trivial⟩, trivial⟩, ⟨Tryz.func7, ⟨Tryz.func6, trivial, trivial⟩, trivial⟩⟩, ⟨Tryz.func11, ⟨Tryz.func10, ⟨Tryz.func9, trivial, trivial⟩, trivial⟩, ⟨Tryz.func13, ⟨Tryz.func12, trivial, trivial⟩, trivial⟩⟩⟩, ⟨Tryz.func20, ⟨Tryz.func17, ⟨Tryz.func16, ⟨Tryz.func15, trivial, trivial⟩, trivial⟩, ⟨Tryz.func19, ⟨Tryz.func18, trivial, trivial⟩, trivial⟩⟩, ⟨Tryz.func23, ⟨Tryz.func22, ⟨Tryz.func21, trivial, trivial⟩, trivial⟩, ⟨Tryz.func25, ⟨Tryz.func24, trivial, trivial⟩, trivial⟩⟩⟩⟩, ⟨Tryz.func39, ⟨Tryz.func32, ⟨Tryz.func29, ⟨Tryz.func28, ⟨Tryz.func27, trivial, trivial⟩, trivial⟩, ⟨Tryz.func31, ⟨Tryz.func30, trivial, trivial⟩, trivial⟩⟩, ⟨Tryz.func35, ⟨Tryz.func34, ⟨Tryz.func33, trivial, trivial⟩, trivial⟩, ⟨Tryz.func38, ⟨Tryz.func37, trivial, trivial⟩, trivial⟩⟩⟩, ⟨Tryz.func48, ⟨Tryz.func42, ⟨Tryz.func41, ⟨Tryz.func40, trivial, trivial⟩, trivial⟩, ⟨Tryz.func47, ⟨Tryz.func46, trivial, trivial⟩, trivial⟩⟩, ⟨Tryz.func51, ⟨Tryz.func50, ⟨Tryz.func49, trivial, trivial⟩, trivial⟩, ⟨Tryz.func57, ⟨Tryz.func56, trivial, trivial⟩, trivial⟩⟩⟩⟩⟩
def rt11 : BT (List Row) := (.node 6 [⟨0, 0⟩, ⟨0, 0⟩, ⟨3, 3⟩, ⟨4, 4⟩, ⟨0, 0⟩, ⟨0, 0⟩, ⟨48, 48⟩, ⟨64, 64⟩, ⟨136, 136⟩] .nil .nil)
theorem rw11 : RowAt Tryz.prog 11 rt11 := rowAt_of Tryz.func11 (by kernel_rfl)
def rt17 : BT (List Row) := (.node 1 [⟨0, 0⟩, ⟨1, 1⟩, ⟨2, 2⟩, ⟨0, 0⟩, ⟨8, 8⟩, ⟨16, 16⟩, ⟨0, 0⟩, ⟨64, 64⟩, ⟨128, 128⟩, ⟨0, 0⟩, ⟨512, 512⟩, ⟨1024, 1024⟩, ⟨2340, 2340⟩, ⟨8191, 4096⟩] .nil .nil)
theorem rw17 : RowAt Tryz.prog 17 rt17 := rowAt_of Tryz.func17 (by kernel_rfl)
def rt20 : BT (List Row) := (.node 8 [⟨0, 0⟩, ⟨0, 0⟩, ⟨3, 3⟩, ⟨0, 0⟩, ⟨0, 0⟩, ⟨24, 24⟩, ⟨32, 32⟩, ⟨68, 68⟩, ⟨255, 128⟩] .nil .nil)
theorem rw20 : RowAt Tryz.prog 20 rt20 := rowAt_of Tryz.func20 (by kernel_rfl)
def rtB : RowT := (.node 17 rt17 (.node 11 rt11 .nil .nil) (.node 20 rt20 .nil .nil))
theorem rtB_ok : RtsOk Tryz.prog (rtsB rtB) := rtsB_ok ⟨rw17, ⟨rw11, trivial, trivial⟩, ⟨rw20, trivial, trivial⟩⟩

theorem own : ownKnob Tryz.prog.godebug = none := by kernel_rfl
theorem laidOut : laidOutB Tryz.prog = true := by kernel_rfl
theorem nogo : (Tryz.prog.funcs.all fun fn => fn.name != "runtime.NumGoroutine") = true := by kernel_rfl
theorem mixedOk : Tryz.prog.follows .mixedOrders = true := by kernel_rfl
/-- the types whose values are compared with no panic -/
noncomputable def seqB (t : TypeId) : Bool := !Tryz.prog.eqGuardType Tryz.prog.depth t && !Tryz.prog.stoodInHeld t
/-- the tables that the row lays, as rows that come in -/
def tabsL : List InD := [⟨[.int .u64], qZi [.c 1, .c 10, .c 100, .c 1000, .c 10000, .c 100000, .c 1000000, .c 10000000, .c 100000000, .c 1000000000, .c 10000000000, .c 100000000000, .c 1000000000000, .c 10000000000000, .c 100000000000000, .c 1000000000000000, .c 10000000000000000, .c 100000000000000000, .c 1000000000000000000, .c 10000000000000000000], .c 20, .c 20, some 4⟩, ⟨[.int .u8], qZi [.c 0, .c 1, .c 28, .c 2, .c 29, .c 14, .c 24, .c 3, .c 30, .c 22, .c 20, .c 15, .c 25, .c 17, .c 4, .c 8, .c 31, .c 27, .c 13, .c 23, .c 21, .c 19, .c 16, .c 7, .c 26, .c 12, .c 18, .c 6, .c 11, .c 5, .c 10, .c 9], .c 32, .c 32, some 8⟩, ⟨[.int .u8], qZi [.c 0, .c 1, .c 56, .c 2, .c 57, .c 49, .c 28, .c 3, .c 61, .c 58, .c 42, .c 50, .c 38, .c 29, .c 17, .c 4, .c 62, .c 47, .c 59, .c 36, .c 45, .c 43, .c 51, .c 22, .c 53, .c 39, .c 33, .c 30, .c 24, .c 18, .c 12, .c 5, .c 63, .c 55, .c 48, .c 27, .c 60, .c 41, .c 37, .c 16, .c 46, .c 35, .c 44, .c 21, .c 52, .c 32, .c 23, .c 11, .c 54, .c 26, .c 40, .c 15, .c 34, .c 20, .c 31, .c 10, .c 25, .c 14, .c 19, .c 9, .c 13, .c 8, .c 7, .c 6], .c 64, .c 64, some 9⟩, ⟨[.int .u8], qZi [.c 0, .c 0, .c 0, .c 0, .c 0, .c 0, .c 0, .c 0, .c 0, .c 1, .c 1, .c 1, .c 1, .c 1, .c 0, .c 0, .c 0, .c 0, .c 0, .c 0, .c 0, .c 0, .c 0, .c 0, .c 0, .c 0, .c 0, .c 0, .c 0, .c 0, .c 0, .c 0, .c 1, .c 0, .c 0, .c 0, .c 0, .c 0, .c 0, .c 0, .c 0, .c 0, .c 0, .c 0, .c 0, .c 0, .c 0, .c 0, .c 0, .c 0, .c 0, .c 0, .c 0, .c 0, .c 0, .c 0, .c 0, .c 0, .c 0, .c 0, .c 0, .c 0, .c 0, .c 0, .c 0, .c 0, .c 0, .c 0, .c 0, .c 0, .c 0, .c 0, .c 0, .c 0, .c 0, .c 0, .c 0, .c 0, .c 0, .c 0, .c 0, .c 0, .c 0, .c 0, .c 0, .c 0, .c 0, .c 0, .c 0, .c 0, .c 0, .c 0, .c 0, .c 0, .c 0, .c 0, .c 0, .c 0, .c 0, .c 0, .c 0, .c 0, .c 0, .c 0, .c 0, .c 0, .c 0, .c 0, .c 0, .c 0, .c 0, .c 0, .c 0, .c 0, .c 0, .c 0, .c 0, .c 0, .c 0, .c 0, .c 0, .c 0, .c 0, .c 0, .c 0, .c 0, .c 0, .c 0, .c 0, .c 0, .c 0, .c 0, .c 0, .c 0, .c 0, .c 0, .c 0, .c 0, .c 0, .c 0, .c 0, .c 0, .c 0, .c 0, .c 0, .c 0, .c 0, .c 0, .c 0, .c 0, .c 0, .c 0, .c 0, .c 0, .c 0, .c 0, .c 0, .c 0, .c 0, .c 0, .c 0, .c 0, .c 0, .c 0, .c 0, .c 0, .c 0, .c 0, .c 0, .c 0, .c 0, .c 0, .c 0, .c 0, .c 0, .c 0, .c 0, .c 0, .c 0, .c 0, .c 0, .c 0, .c 0, .c 0, .c 0, .c 0, .c 0, .c 0, .c 0, .c 0, .c 0, .c 0, .c 0, .c 0, .c 0, .c 0, .c 0, .c 0, .c 0, .c 0, .c 0, .c 0, .c 0, .c 0, .c 0, .c 0, .c 0, .c 0, .c 0, .c 0, .c 0, .c 0, .c 0, .c 0, .c 0, .c 0, .c 0, .c 0, .c 0, .c 0, .c 0, .c 0, .c 0, .c 0, .c 0, .c 0, .c 0, .c 0, .c 0, .c 0, .c 0, .c 0, .c 0, .c 0, .c 0, .c 0, .c 0, .c 0, .c 0, .c 0, .c 0, .c 0, .c 0, .c 0, .c 0, .c 0, .c 0, .c 0, .c 0, .c 0, .c 0, .c 0, .c 0, .c 0, .c 0, .c 0], .c 256, .c 256, some 0⟩, ⟨[], .c 0, .c 1, .c 1, some 5⟩, ⟨[], .c 0, .c 2, .c 2, some 1⟩]
/-- n: how deep a number may be without a name (0: none is named) -/
noncomputable def cxOf (n : Nat) : Cx :=
  { P := Tryz.prog, Γ := [], Φ := phiN, F := fN, lf := lfN, ins := [], tabs := tabsL, sh := n, und := undB tyB, inf := infB tyB, fn := fnB fuB, seq := seqB,
    undOk := undB_ok tyB_ok, infOk := fun _ _ h => BT.find_all tyB_ok h, fnOk := fun _ _ h => BT.find_all fuB_ok h,
    seqOk := fun t h => by unfold seqB at h; simpa using h }
theorem cxOf_ok (n : Nat) (m : Rc) : CxOk (m.cx (cxOf n)) :=
  ⟨mixedOk, fun f fn h => by
    have h1 := Array.all_eq_true.1 nogo
    obtain ⟨h2, h3⟩ := Array.getElem?_eq_some_iff.1 h
    have := h1 f h2
    have h4 : (Tryz.prog.funcs[f]'h2) = fn := h3
    rw [h4] at this
    simpa using this⟩
/-- the same, with what comes in -/
noncomputable def cxG (n : Nat) (Γ : List (Int × Int)) (ins : List InD) : Cx := { cxOf n with Γ := Γ, ins := ins ++ tabsL }
theorem tabsAll : (tabsL.all fun d => d.c.vb 0 && (d.n.vb 0 && d.cap.vb 0)) = true := by kernel_rfl
theorem tabsG (n : Nat) (Γ : List (Int × Int)) (ins : List InD) : TabsOk (cxG n Γ ins) := ⟨⟨ins, rfl⟩, fun d hd => by have := List.all_eq_true.1 tabsAll d hd; simp only [Bool.and_eq_true] at this; exact this⟩
theorem cxG_ok (n : Nat) (Γ : List (Int × Int)) (ins : List InD) : CxOk (cxG n Γ ins) :=
  ⟨mixedOk, fun f fn h => by
    have h1 := Array.all_eq_true.1 nogo
    obtain ⟨h2, h3⟩ := Array.getElem?_eq_some_iff.1 h
    have := h1 f h2
    have h4 : (Tryz.prog.funcs[f]'h2) = fn := h3
    rw [h4] at this
    simpa using this⟩
/-- a contract holds however much is named, and whatever else comes in -/
theorem rc_n {n k : Nat} {Γ : List (Int × Int)} {ins : List InD} {m : Rc} (h : RcOk (cxOf n) m) : RcOk (cxG k Γ ins) m :=
  fun ρ w hρ hc hp hr => h ρ w ⟨hρ.hi, hρ.hf, hρ.hv, hρ.hF, hρ.hP, hρ.hro⟩ hc hp hr
theorem rh_n {n k : Nat} {Γ : List (Int × Int)} {ins : List InD} {m : Rh} (h : RhOk (cxOf n) m) : RhOk (cxG k Γ ins) m :=
  fun ρ β w hρ hp hs => h ρ β w ⟨hρ.hi, hρ.hf, hρ.hv, hρ.hF, hρ.hP, hρ.hro⟩ hp hs
theorem mg {α : Type} {l : List α} {a : α} (i : Nat) (h : l[i]? = some a) : a ∈ l := List.mem_of_getElem? h
/-- the engine's runs -/
abbrev SMs := List (Int × Int) → List InD → Nat → SM
def SMsOk (sm : SMs) : Prop := ∀ Γ ins n, SmOk (cxG n Γ ins) (sm Γ ins n)
noncomputable def runC (sm : SMs) (Γ : List (Int × Int)) (ins : List InD) (n : Nat) : CF := execFn (cxG n Γ ins) (rtsB rtB) (sm Γ ins n) (fun _ _ => none) 40 30
theorem xok0 (cx : Cx) : XOk cx (fun _ _ => none) := fun _ _ _ _ _ _ _ h => by cases h
theorem runC_ok {sm : SMs} (h : SMsOk sm) (Γ : List (Int × Int)) (ins : List InD) (n : Nat) : qYd (cxG n Γ ins) (runC sm Γ ins n) := execFn_ok (cxG_ok n Γ ins) rtB_ok (h Γ ins n) (xok0 _) _
noncomputable def runG (sm : SMs) (lhs : LHS) (Γ : List (Int × Int)) (ins : List InD) (n : Nat) : CFT := execFnT (cxG n Γ ins) (rtsB rtB) (sm Γ ins n) (fun _ _ => none) lhs (runC sm Γ ins n) 40 30
theorem runG_ok {sm : SMs} (h : SMsOk sm) (lhs : LHS) (Γ : List (Int × Int)) (ins : List InD) (n : Nat) : qJo (cxG n Γ ins) (runG sm lhs Γ ins n) :=
  execFnT_ok (cxG_ok n Γ ins) rtB_ok (h Γ ins n) (xok0 _) (runC_ok h Γ ins n) _
noncomputable def runT (sm : SMs) (lhs : LHS) (m : Rc) (n : Nat) : CFT := runG sm lhs (bdsF m.ls) (qKd m.b m.c m.ls 0 0 0) n
theorem runT_ok {sm : SMs} (h : SMsOk sm) (lhs : LHS) (m : Rc) (n : Nat) : qJo (m.cx (cxOf n)) (runT sm lhs m n) := runG_ok h lhs _ _ n
noncomputable def runH (sm : SMs) (lhs : LHS) (m : Rk) (n : Nat) : CFT := runG sm lhs m.Γ m.ins n
theorem runH_ok {sm : SMs} (h : SMsOk sm) (lhs : LHS) (m : Rk) (n : Nat) : qJo (m.rh.cx (cxOf n)) (runH sm lhs m n) := runG_ok h lhs m.Γ m.ins n
/-! the parts of a contract's proof -/
noncomputable def fineR (n : Nat) (m : Rc) (t : TT (List E)) : Bool := TT.fine (m.cx (cxOf n)) 1000 [] t && (m.cx (cxOf n)).okB 1000 && SV.vbL 1000 m.args && TT.tidy (m.cx (cxOf n)) [] t
noncomputable def ranR (us : SMs) (lhs : LHS) (m : Rc) (n : Nat) (t : TT (List E)) : Bool := TT.beq (projL (m.pj (cxOf n)) (runT us lhs m n m.f m.args ⟨[], m.kn0⟩)) t
def statR (n : Nat) (m : Rc) (t : TT (List E)) (ρ : Env) : Prop := TT.hdP (m.cx (cxOf n)) (rlF ρ m.res) t ρ
theorem okR {us : SMs} {lhs : LHS} {m : Rc} {n : Nat} {t : TT (List E)} (hu : SMsOk us) (h1 : ranR us lhs m n t = true) (h2 : fineR n m t = true) (h3 : m.ok = true)
    (h : ∀ i v ro p, EnvOk (m.cx (cxOf n)) ⟨i, fN, v, ro, p⟩ → (∀ d ∈ qKd m.b m.c m.ls 0 0 0, d.n.ev ⟨i, fN, v, ro, p⟩ ≤ d.cap.ev ⟨i, fN, v, ro, p⟩) → (∀ e ∈ m.pre, e.evP ⟨i, fN, v, ro, p⟩ ≠ 0) → statR n m t ⟨i, fN, v, ro, p⟩) : RcOk (cxOf n) m :=
  rc_run (runT_ok hu lhs m n) h1 h2 h3 fun ρ hρ hcap hpre => by
    obtain ⟨i, f, v, ro, p⟩ := ρ
    have hf : f = fN := hρ.hF
    subst hf
    exact h i v ro p hρ hcap hpre
noncomputable def fineH (n : Nat) (m : Rk) (t : TT (List E)) : Bool := TT.fine (m.rh.cx (cxOf n)) 1000 [] t && (m.rh.cx (cxOf n)).okB 1000 && SV.vbL 1000 m.args && TT.tidy (m.rh.cx (cxOf n)) [] t
noncomputable def ranH (us : SMs) (lhs : LHS) (m : Rk) (n : Nat) (t : TT (List E)) : Bool := TT.beq (projL (m.pj (cxOf n)) (runH us lhs m n m.f m.args ⟨m.inb, m.kn0⟩)) t
def statH (n : Nat) (m : Rk) (t : TT (List E)) (ρ : Env) : Prop := TT.hdP (m.rh.cx (cxOf n)) (rsF ρ m.rs) t ρ
theorem okH {us : SMs} {lhs : LHS} {m : Rk} {n : Nat} {t : TT (List E)} (hu : SMsOk us) (h1 : ranH us lhs m n t = true) (h2 : fineH n m t = true) (h4 : blVb 1000 m.inb = true) (h3 : m.ok = true)
    (h : ∀ i v ro p, EnvOk (m.rh.cx (cxOf n)) ⟨i, fN, v, ro, p⟩ → (∀ e ∈ m.pre, e.evP ⟨i, fN, v, ro, p⟩ ≠ 0) → statH n m t ⟨i, fN, v, ro, p⟩) : RhOk (cxOf n) m.rh :=
  rk_run (runH_ok hu lhs m n) h1 h2 h4 h3 fun ρ hρ hpre => by
    obtain ⟨i, f, v, ro, p⟩ := ρ
    have hf : f = fN := hρ.hF
    subst hf
    exact h i v ro p hρ hpre
theorem den_row (ρ : Env) (β : Bt) (k z i j : Nat) : (SV.sl (.inp k) z (.c 0) (.v i) (some (.v j))).den ρ β = .slice (ρ.ro k).a (ρ.i i).toNat (ρ.i j).toNat := by
  simp only [SV.den, E.ev, map_addr_zero]
end Go.Proofs.YtppiabilakeadaaGreatDoor
