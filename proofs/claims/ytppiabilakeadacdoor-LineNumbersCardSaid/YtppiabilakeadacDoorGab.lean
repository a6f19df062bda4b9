/-
  The program's tables of types, of functions and of all regions that draw their order, as trees; the engine at this program. Printed by program.
-/
import Derived.Test.YtppiabilakeadacDoorGu5
import Derived.Test.YtppiabilakeadacDoorRows
import Derived.WalkKit
import Derived.ProofKit
set_option linter.unusedVariables false
set_option linter.unusedSimpArgs false
namespace Go.Proofs.YtppiabilakeadacDoor
open Go Go.Eng Go.RowKit
set_option maxRecDepth 100000
noncomputable def tyB : BT TypeInfo := (.node 41 Tryd.t41 (.node 30 Tryd.t30 (.node 5 Tryd.t5 (.node 4 Tryd.t4 (.node 3 Tryd.t3 .nil .nil) .nil) (.node 27 Tryd.t27 (.node 9 Tryd.t9 .nil .nil) .nil)) (.node 36 Tryd.t36 (.node 35 Tryd.t35 (.node 31 Tryd.t31 .nil .nil) .nil) (.node 40 Tryd.t40 .nil .nil))) (.node 55 Tryd.t55 (.node 49 Tryd.t49 (.node 48 Tryd.t48 (.node 42 Tryd.t42 .nil .nil) .nil) (.node 53 Tryd.t53 (.node 52 Tryd.t52 .nil .nil) .nil)) (.node 59 Tryd.t59 (.node 58 Tryd.t58 (.node 57 Tryd.t57 .nil .nil) .nil) (.node 60 Tryd.t60 .nil .nil))))
theorem tyB_ok : tyB.All fun i v => Tryd.prog.info? i = some v := ⟨Tryd.type41, ⟨Tryd.type30, ⟨Tryd.type5, ⟨Tryd.type4, ⟨Tryd.type3, trivial, trivial⟩, trivial⟩, ⟨Tryd.type27, ⟨Tryd.type9, trivial, trivial⟩, trivial⟩⟩, ⟨Tryd.type36, ⟨Tryd.type35, ⟨Tryd.type31, trivial, trivial⟩, trivial⟩, ⟨Tryd.type40, trivial, trivial⟩⟩⟩, ⟨Tryd.type55, ⟨Tryd.type49, ⟨Tryd.type48, ⟨Tryd.type42, trivial, trivial⟩, trivial⟩, ⟨Tryd.type53, ⟨Tryd.type52, trivial, trivial⟩, trivial⟩⟩, ⟨Tryd.type59, ⟨Tryd.type58, ⟨Tryd.type57, trivial, trivial⟩, trivial⟩, ⟨Tryd.type60, trivial, trivial⟩⟩⟩⟩
noncomputable def fuB : BT Func := (.node 21 Tryd.f21 (.node 12 Tryd.f12 (.node 7 Tryd.f7 (.node 5 Tryd.f5 (.node 4 Tryd.f4 (.node 3 Tryd.f3 .nil .nil) .nil) (.node 6 Tryd.f6 .nil .nil)) (.node 10 Tryd.f10 (.node 9 Tryd.f9 (.node 8 Tryd.f8 .nil .nil) .nil) (.node 11 Tryd.f11 .nil .nil))) (.node 17 Tryd.f17 (.node 15 Tryd.f15 (.node 14 Tryd.f14 (.node 13 Tryd.f13 .nil .nil) .nil) (.node 16 Tryd.f16 .nil .nil)) (.node 19 Tryd.f19 (.node 18 Tryd.f18 .nil .nil) (.node 20 Tryd.f20 .nil .nil)))) (.node 33 Tryd.f33 (.node 29 Tryd.f29 (.node 27 Tryd.f27 (.node 26 Tryd.f26 (.node 22 Tryd.f22 .nil .nil) .nil) (.node 28 Tryd.f28 .nil .nil)) (.node 31 Tryd.f31 (.node 30 Tryd.f30 .nil .nil) (.node 32 Tryd.f32 .nil .nil))) (.node 44 Tryd.f44 (.node 42 Tryd.f42 (.node 41 Tryd.f41 (.node 34 Tryd.f34 .nil .nil) .nil) (.node 43 Tryd.f43 .nil .nil)) (.node 46 Tryd.f46 (.node 45 Tryd.f45 .nil .nil) (.node 51 Tryd.f51 .nil .nil)))))
theorem fuB_ok : fuB.All fun i v => Tryd.prog.funcs[i]? = some v := ⟨Tryd.func21, ⟨Tryd.func12, ⟨Tryd.func7, ⟨Tryd.func5, ⟨Tryd.func4, ⟨Tryd.func3, trivial, trivial⟩, trivial⟩, ⟨Tryd.func6, trivial, trivial⟩⟩, ⟨Tryd.func10, ⟨Tryd.func9, ⟨Tryd.func8, trivial, trivial⟩, trivial⟩, ⟨Tryd.func11, trivial, trivial⟩⟩⟩, ⟨Tryd.func17, ⟨Tryd.func15, ⟨Tryd.func14, ⟨Tryd.func13, trivial, trivial⟩, trivial⟩, ⟨Tryd.func16, trivial, trivial⟩⟩, ⟨Tryd.func19, ⟨Tryd.func18, trivial, trivial⟩, ⟨Tryd.func20, trivial, trivial⟩⟩⟩⟩, ⟨Tryd.func33, ⟨Tryd.func29, ⟨Tryd.func27, ⟨Tryd.func26, ⟨Tryd.func22, trivial, trivial⟩, trivial⟩, ⟨Tryd.func28, trivial, trivial⟩⟩, ⟨Tryd.func31, ⟨Tryd.func30, trivial, trivial⟩, ⟨Tryd.func32, trivial, trivial⟩⟩⟩, ⟨Tryd.func44, ⟨Tryd.func42, ⟨Tryd.func41, ⟨Tryd.func34, trivial, trivial⟩, trivial⟩, ⟨Tryd.func43, trivial, trivial⟩⟩, ⟨Tryd.func46, ⟨Tryd.func45, trivial, trivial⟩, ⟨Tryd.func51, trivial, trivial⟩⟩⟩⟩⟩
def rt15 : BT (List Row) := (.node 1 [⟨0, 0⟩, ⟨1, 1⟩, ⟨2, 2⟩, ⟨0, 0⟩, ⟨8, 8⟩, ⟨16, 16⟩, ⟨0, 0⟩, ⟨64, 64⟩, ⟨128, 128⟩, ⟨0, 0⟩, ⟨512, 512⟩, ⟨1024, 1024⟩, ⟨2340, 2340⟩, ⟨8191, 4096⟩] .nil .nil)
theorem rw15 : RowAt Tryd.prog 15 rt15 := rowAt_of Tryd.func15 (by kernel_rfl)
def rtB : RowT := (.node 15 rt15 .nil .nil)
theorem rtB_ok : RtsOk Tryd.prog (rtsB rtB) := rtsB_ok ⟨rw15, trivial, trivial⟩

theorem own : ownKnob Tryd.prog.godebug = none := by kernel_rfl
theorem laidOut : laidOutB Tryd.prog = true := by kernel_rfl
theorem nogo : (Tryd.prog.funcs.all fun fn => fn.name != "runtime.NumGoroutine") = true := by kernel_rfl
theorem mixedOk : Tryd.prog.follows .mixedOrders = true := by kernel_rfl
/-- the types whose values are compared with no panic -/
noncomputable def seqB (t : TypeId) : Bool := !Tryd.prog.eqGuardType Tryd.prog.depth t && !Tryd.prog.stoodInHeld t
/-- the tables that the row lays, as rows that come in -/
def tabsL : List InD := [⟨[.int .u64], qZg [.c 1, .c 10, .c 100, .c 1000, .c 10000, .c 100000, .c 1000000, .c 10000000, .c 100000000, .c 1000000000, .c 10000000000, .c 100000000000, .c 1000000000000, .c 10000000000000, .c 100000000000000, .c 1000000000000000, .c 10000000000000000, .c 100000000000000000, .c 1000000000000000000, .c 10000000000000000000], .c 20, .c 20, some 3⟩, ⟨[.int .u8], qZg [.c 0, .c 1, .c 28, .c 2, .c 29, .c 14, .c 24, .c 3, .c 30, .c 22, .c 20, .c 15, .c 25, .c 17, .c 4, .c 8, .c 31, .c 27, .c 13, .c 23, .c 21, .c 19, .c 16, .c 7, .c 26, .c 12, .c 18, .c 6, .c 11, .c 5, .c 10, .c 9], .c 32, .c 32, some 6⟩, ⟨[.int .u8], qZg [.c 0, .c 1, .c 56, .c 2, .c 57, .c 49, .c 28, .c 3, .c 61, .c 58, .c 42, .c 50, .c 38, .c 29, .c 17, .c 4, .c 62, .c 47, .c 59, .c 36, .c 45, .c 43, .c 51, .c 22, .c 53, .c 39, .c 33, .c 30, .c 24, .c 18, .c 12, .c 5, .c 63, .c 55, .c 48, .c 27, .c 60, .c 41, .c 37, .c 16, .c 46, .c 35, .c 44, .c 21, .c 52, .c 32, .c 23, .c 11, .c 54, .c 26, .c 40, .c 15, .c 34, .c 20, .c 31, .c 10, .c 25, .c 14, .c 19, .c 9, .c 13, .c 8, .c 7, .c 6], .c 64, .c 64, some 7⟩, ⟨[.int .u8], qZg [.c 0, .c 0, .c 0, .c 0, .c 0, .c 0, .c 0, .c 0, .c 0, .c 1, .c 1, .c 1, .c 1, .c 1, .c 0, .c 0, .c 0, .c 0, .c 0, .c 0, .c 0, .c 0, .c 0, .c 0, .c 0, .c 0, .c 0, .c 0, .c 0, .c 0, .c 0, .c 0, .c 1, .c 0, .c 0, .c 0, .c 0, .c 0, .c 0, .c 0, .c 0, .c 0, .c 0, .c 0, .c 0, .c 0, .c 0, .c 0, .c 0, .c 0, .c 0, .c 0, .c 0, .c 0, .c 0, .c 0, .c 0, .c 0, .c 0, .c 0, .c 0, .c 0, .c 0, .c 0, .c 0, .c 0, .c 0, .c 0, .c 0, .c 0, .c 0, .c 0, .c 0, .c 0, .c 0, .c 0, .c 0, .c 0, .c 0, .c 0, .c 0, .c 0, .c 0, .c 0, .c 0, .c 0, .c 0, .c 0, .c 0, .c 0, .c 0, .c 0, .c 0, .c 0, .c 0, .c 0, .c 0, .c 0, .c 0, .c 0, .c 0, .c 0, .c 0, .c 0, .c 0, .c 0, .c 0, .c 0, .c 0, .c 0, .c 0, .c 0, .c 0, .c 0, .c 0, .c 0, .c 0, .c 0, .c 0, .c 0, .c 0, .c 0, .c 0, .c 0, .c 0, .c 0, .c 0, .c 0, .c 0, .c 0, .c 0, .c 0, .c 0, .c 0, .c 0, .c 0, .c 0, .c 0, .c 0, .c 0, .c 0, .c 0, .c 0, .c 0, .c 0, .c 0, .c 0, .c 0, .c 0, .c 0, .c 0, .c 0, .c 0, .c 0, .c 0, .c 0, .c 0, .c 0, .c 0, .c 0, .c 0, .c 0, .c 0, .c 0, .c 0, .c 0, .c 0, .c 0, .c 0, .c 0, .c 0, .c 0, .c 0, .c 0, .c 0, .c 0, .c 0, .c 0, .c 0, .c 0, .c 0, .c 0, .c 0, .c 0, .c 0, .c 0, .c 0, .c 0, .c 0, .c 0, .c 0, .c 0, .c 0, .c 0, .c 0, .c 0, .c 0, .c 0, .c 0, .c 0, .c 0, .c 0, .c 0, .c 0, .c 0, .c 0, .c 0, .c 0, .c 0, .c 0, .c 0, .c 0, .c 0, .c 0, .c 0, .c 0, .c 0, .c 0, .c 0, .c 0, .c 0, .c 0, .c 0, .c 0, .c 0, .c 0, .c 0, .c 0, .c 0, .c 0, .c 0, .c 0, .c 0, .c 0, .c 0, .c 0, .c 0, .c 0, .c 0, .c 0, .c 0, .c 0, .c 0, .c 0, .c 0, .c 0, .c 0, .c 0, .c 0, .c 0, .c 0, .c 0, .c 0, .c 0, .c 0, .c 0], .c 256, .c 256, some 2⟩, ⟨[], .c 0, .c 1, .c 1, some 5⟩, ⟨[], .c 0, .c 2, .c 2, some 0⟩]
/-- n: how deep a number may be without a name (0: none is named) -/
noncomputable def cxOf (n : Nat) : Cx :=
  { P := Tryd.prog, Γ := [], Φ := phiN, F := fN, lf := lfN, ins := [], tabs := tabsL, sh := n, und := undB tyB, inf := infB tyB, fn := fnB fuB, seq := seqB,
    undOk := undB_ok tyB_ok, infOk := fun _ _ h => BT.find_all tyB_ok h, fnOk := fun _ _ h => BT.find_all fuB_ok h,
    seqOk := fun t h => by unfold seqB at h; simpa using h }
theorem cxOf_ok (n : Nat) (m : Rc) : CxOk (m.cx (cxOf n)) :=
  ⟨mixedOk, fun f fn h => by
    have h1 := Array.all_eq_true.1 nogo
    obtain ⟨h2, h3⟩ := Array.getElem?_eq_some_iff.1 h
    have := h1 f h2
    have h4 : (Tryd.prog.funcs[f]'h2) = fn := h3
    rw [h4] at this
    simpa using this⟩
/-- the same, with what comes in -/
noncomputable def cxG (n : Nat) (Γ : List (Int × Int)) (ins : List InD) : Cx := { cxOf n with Γ := Γ, ins := ins ++ tabsL }
theorem tabsAll : (tabsL.all fun d => d.c.vb 0 && (d.n.vb 0 && d.cap.vb 0)) = true := by kernel_rfl
theorem tabsG (n : Nat) (Γ : List (Int × Int)) (ins : List InD) : TabsOk (cxG n Γ ins) := ⟨⟨ins, rfl⟩, fun d hd => by have := List.all_eq_true.1 tabsAll d hd; simp only [Bool.and_eq_true] at this; exact this⟩
theorem cxG_ok (n : Nat) (Γ : List (Int × Int)) (ins : List InD) : CxOk (cxG n Γ ins) :=
  ⟨mixedOk, fun f fn h => by
    have h1 := Array.all_eq_true.1 nogo
    obtain ⟨h2, h3⟩ := Array.getElem?_eq_some_iff.1 h
    have := h1 f h2
    have h4 : (Tryd.prog.funcs[f]'h2) = fn := h3
    rw [h4] at this
    simpa using this⟩
/-- a contract holds however much is named, and whatever else comes in -/
theorem rc_n {n k : Nat} {Γ : List (Int × Int)} {ins : List InD} {m : Rc} (h : RcOk (cxOf n) m) : RcOk (cxG k Γ ins) m :=
  fun ρ w hρ hc hp hr => h ρ w ⟨hρ.hi, hρ.hf, hρ.hv, hρ.hF, hρ.hP, hρ.hro⟩ hc hp hr
theorem rh_n {n k : Nat} {Γ : List (Int × Int)} {ins : List InD} {m : Rh} (h : RhOk (cxOf n) m) : RhOk (cxG k Γ ins) m :=
  fun ρ β w hρ hp hs => h ρ β w ⟨hρ.hi, hρ.hf, hρ.hv, hρ.hF, hρ.hP, hρ.hro⟩ hp hs
theorem mg {α : Type} {l : List α} {a : α} (i : Nat) (h : l[i]? = some a) : a ∈ l := List.mem_of_getElem? h
/-- the engine's runs -/
abbrev SMs := List (Int × Int) → List InD → Nat → SM
def SMsOk (sm : SMs) : Prop := ∀ Γ ins n, SmOk (cxG n Γ ins) (sm Γ ins n)
noncomputable def runC (sm : SMs) (Γ : List (Int × Int)) (ins : List InD) (n : Nat) : CF := execFn (cxG n Γ ins) (rtsB rtB) (sm Γ ins n) (fun _ _ => none) 40 30
theorem xok0 (cx : Cx) : XOk cx (fun _ _ => none) := fun _ _ _ _ _ _ _ h => by cases h
theorem runC_ok {sm : SMs} (h : SMsOk sm) (Γ : List (Int × Int)) (ins : List InD) (n : Nat) : qYx (cxG n Γ ins) (runC sm Γ ins n) := execFn_ok (cxG_ok n Γ ins) rtB_ok (h Γ ins n) (xok0 _) _
noncomputable def runG (sm : SMs) (lhs : LHS) (Γ : List (Int × Int)) (ins : List InD) (n : Nat) : CFT := execFnT (cxG n Γ ins) (rtsB rtB) (sm Γ ins n) (fun _ _ => none) lhs (runC sm Γ ins n) 40 30
theorem runG_ok {sm : SMs} (h : SMsOk sm) (lhs : LHS) (Γ : List (Int × Int)) (ins : List InD) (n : Nat) : qJg (cxG n Γ ins) (runG sm lhs Γ ins n) :=
  execFnT_ok (cxG_ok n Γ ins) rtB_ok (h Γ ins n) (xok0 _) (runC_ok h Γ ins n) _
noncomputable def runT (sm : SMs) (lhs : LHS) (m : Rc) (n : Nat) : CFT := runG sm lhs (bdsF m.ls) (qKv m.b m.c m.ls 0 0 0) n
theorem runT_ok {sm : SMs} (h : SMsOk sm) (lhs : LHS) (m : Rc) (n : Nat) : qJg (m.cx (cxOf n)) (runT sm lhs m n) := runG_ok h lhs _ _ n
noncomputable def runH (sm : SMs) (lhs : LHS) (m : Rk) (n : Nat) : CFT := runG sm lhs m.Γ m.ins n
theorem runH_ok {sm : SMs} (h : SMsOk sm) (lhs : LHS) (m : Rk) (n : Nat) : qJg (m.rh.cx (cxOf n)) (runH sm lhs m n) := runG_ok h lhs m.Γ m.ins n
/-! the parts of a contract's proof -/
noncomputable def fineR (n : Nat) (m : Rc) (t : TT (List E)) : Bool := TT.fine (m.cx (cxOf n)) 1000 [] t && (m.cx (cxOf n)).okB 1000 && SV.vbL 1000 m.args && TT.tidy (m.cx (cxOf n)) [] t
noncomputable def ranR (us : SMs) (lhs : LHS) (m : Rc) (n : Nat) (t : TT (List E)) : Bool := TT.beq (projL (m.pj (cxOf n)) (runT us lhs m n m.f m.args ⟨[], m.kn0⟩)) t
def statR (n : Nat) (m : Rc) (t : TT (List E)) (ρ : Env) : Prop := TT.hdP (m.cx (cxOf n)) (rlF ρ m.res) t ρ
theorem okR {us : SMs} {lhs : LHS} {m : Rc} {n : Nat} {t : TT (List E)} (hu : SMsOk us) (h1 : ranR us lhs m n t = true) (h2 : fineR n m t = true) (h3 : m.ok = true)
    (h : ∀ i v ro p, EnvOk (m.cx (cxOf n)) ⟨i, fN, v, ro, p⟩ → (∀ d ∈ qKv m.b m.c m.ls 0 0 0, d.n.ev ⟨i, fN, v, ro, p⟩ ≤ d.cap.ev ⟨i, fN, v, ro, p⟩) → (∀ e ∈ m.pre, e.evP ⟨i, fN, v, ro, p⟩ ≠ 0) → statR n m t ⟨i, fN, v, ro, p⟩) : RcOk (cxOf n) m :=
  rc_run (runT_ok hu lhs m n) h1 h2 h3 fun ρ hρ hcap hpre => by
    obtain ⟨i, f, v, ro, p⟩ := ρ
    have hf : f = fN := hρ.hF
    subst hf
    exact h i v ro p hρ hcap hpre
noncomputable def fineH (n : Nat) (m : Rk) (t : TT (List E)) : Bool := TT.fine (m.rh.cx (cxOf n)) 1000 [] t && (m.rh.cx (cxOf n)).okB 1000 && SV.vbL 1000 m.args && TT.tidy (m.rh.cx (cxOf n)) [] t
noncomputable def ranH (us : SMs) (lhs : LHS) (m : Rk) (n : Nat) (t : TT (List E)) : Bool := TT.beq (projL (m.pj (cxOf n)) (runH us lhs m n m.f m.args ⟨m.inb, m.kn0⟩)) t
def statH (n : Nat) (m : Rk) (t : TT (List E)) (ρ : Env) : Prop := TT.hdP (m.rh.cx (cxOf n)) (rsF ρ m.rs) t ρ
theorem okH {us : SMs} {lhs : LHS} {m : Rk} {n : Nat} {t : TT (List E)} (hu : SMsOk us) (h1 : ranH us lhs m n t = true) (h2 : fineH n m t = true) (h4 : blVb 1000 m.inb = true) (h3 : m.ok = true)
    (h : ∀ i v ro p, EnvOk (m.rh.cx (cxOf n)) ⟨i, fN, v, ro, p⟩ → (∀ e ∈ m.pre, e.evP ⟨i, fN, v, ro, p⟩ ≠ 0) → statH n m t ⟨i, fN, v, ro, p⟩) : RhOk (cxOf n) m.rh :=
  rk_run (runH_ok hu lhs m n) h1 h2 h4 h3 fun ρ hρ hpre => by
    obtain ⟨i, f, v, ro, p⟩ := ρ
    have hf : f = fN := hρ.hF
    subst hf
    exact h i v ro p hρ hpre
theorem den_row (ρ : Env) (β : Bt) (k z i j : Nat) : (SV.sl (.inp k) z (.c 0) (.v i) (some (.v j))).den ρ β = .slice (ρ.ro k).a (ρ.i i).toNat (ρ.i j).toNat := by
  simp only [SV.den, E.ev, map_addr_zero]
end Go.Proofs.YtppiabilakeadacDoor
