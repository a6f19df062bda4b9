/-
  The program's tables of types, of functions and of all regions that draw their order, as trees; the engine at this program. Printed by program.
-/
import Derived.Test.YtppiabilakeadabDoorGu5
import Derived.Test.YtppiabilakeadabDoorRows
import Derived.WalkKit
import Derived.ProofKit
set_option linter.unusedVariables false
set_option linter.unusedSimpArgs false
namespace Go.Proofs.YtppiabilakeadabDoor
open Go Go.Eng Go.RowKit
set_option maxRecDepth 100000
noncomputable def tyB : BT TypeInfo := (.node 45 Tryd.t45 (.node 23 Tryd.t23 (.node 5 Tryd.t5 (.node 4 Tryd.t4 (.node 3 Tryd.t3 .nil .nil) .nil) (.node 22 Tryd.t22 (.node 9 Tryd.t9 .nil .nil) .nil)) (.node 29 Tryd.t29 (.node 25 Tryd.t25 (.node 24 Tryd.t24 .nil .nil) .nil) (.node 37 Tryd.t37 (.node 36 Tryd.t36 .nil .nil) .nil))) (.node 54 Tryd.t54 (.node 50 Tryd.t50 (.node 49 Tryd.t49 (.node 46 Tryd.t46 .nil .nil) .nil) (.node 53 Tryd.t53 (.node 51 Tryd.t51 .nil .nil) .nil)) (.node 65 Tryd.t65 (.node 56 Tryd.t56 (.node 55 Tryd.t55 .nil .nil) .nil) (.node 66 Tryd.t66 .nil .nil))))
theorem tyB_ok : tyB.All fun i v => Tryd.prog.info? i = some v := ⟨Tryd.type45, ⟨Tryd.type23, ⟨Tryd.type5, ⟨Tryd.type4, ⟨Tryd.type3, trivial, trivial⟩, trivial⟩, ⟨Tryd.type22, ⟨Tryd.type9, trivial, trivial⟩, trivial⟩⟩, ⟨Tryd.type29, ⟨Tryd.type25, ⟨Tryd.type24, trivial, trivial⟩, trivial⟩, ⟨Tryd.type37, ⟨Tryd.type36, trivial, trivial⟩, trivial⟩⟩⟩, ⟨Tryd.type54, ⟨Tryd.type50, ⟨Tryd.type49, ⟨Tryd.type46, trivial, trivial⟩, trivial⟩, ⟨Tryd.type53, ⟨Tryd.type51, trivial, trivial⟩, trivial⟩⟩, ⟨Tryd.type65, ⟨Tryd.type56, ⟨Tryd.type55, trivial, trivial⟩, trivial⟩, ⟨Tryd.type66, trivial, trivial⟩⟩⟩⟩
noncomputable def fuB : BT Func := (.node 20 Tryd.f20 (.node 11 Tryd.f11 (.node 7 Tryd.f7 (.node 5 Tryd.f5 (.node 4 Tryd.f4 (.node 3 Tryd.f3 .nil .nil) .nil) (.node 6 Tryd.f6 .nil .nil)) (.node 9 Tryd.f9 (.node 8 Tryd.f8 .nil .nil) (.node 10 Tryd.f10 .nil .nil))) (.node 16 Tryd.f16 (.node 14 Tryd.f14 (.node 13 Tryd.f13 (.node 12 Tryd.f12 .nil .nil) .nil) (.node 15 Tryd.f15 .nil .nil)) (.node 18 Tryd.f18 (.node 17 Tryd.f17 .nil .nil) (.node 19 Tryd.f19 .nil .nil)))) (.node 31 Tryd.f31 (.node 26 Tryd.f26 (.node 23 Tryd.f23 (.node 22 Tryd.f22 (.node 21 Tryd.f21 .nil .nil) .nil) (.node 25 Tryd.f25 .nil .nil)) (.node 29 Tryd.f29 (.node 27 Tryd.f27 .nil .nil) (.node 30 Tryd.f30 .nil .nil))) (.node 36 Tryd.f36 (.node 34 Tryd.f34 (.node 33 Tryd.f33 (.node 32 Tryd.f32 .nil .nil) .nil) (.node 35 Tryd.f35 .nil .nil)) (.node 47 Tryd.f47 (.node 41 Tryd.f41 .nil .nil) (.node 56 Tryd.f56 .nil .nil)))))
theorem fuB_ok : fuB.All fun i v => Tryd.prog.funcs[i]? = some v := ⟨Tryd.func20, ⟨Tryd.func11, ⟨Tryd.func7, ⟨Tryd.func5, ⟨Tryd.func4, ⟨Tryd.func3, trivial, trivial⟩, trivial⟩, ⟨Tryd.func6, trivial, trivial⟩⟩, ⟨Tryd.func9, ⟨Tryd.func8, trivial, trivial⟩, ⟨Tryd.func10, trivial, trivial⟩⟩⟩, ⟨Tryd.func16, ⟨Tryd.func14, ⟨Tryd.func13, ⟨Tryd.func12, trivial, trivial⟩, trivial⟩, ⟨Tryd.func15, trivial, trivial⟩⟩, ⟨Tryd.func18, ⟨Tryd.func17, trivial, trivial⟩, ⟨Tryd.func19, trivial, trivial⟩⟩⟩⟩, ⟨Tryd.func31, ⟨Tryd.func26, ⟨Tryd.func23, ⟨Tryd.func22, ⟨Tryd.func21, trivial, trivial⟩, trivial⟩, ⟨Tryd.func25, trivial, trivial⟩⟩, ⟨Tryd.func29, ⟨Tryd.func27, trivial, trivial⟩, ⟨Tryd.func30, trivial, trivial⟩⟩⟩, ⟨Tryd.func36, ⟨Tryd.func34, ⟨Tryd.func33, ⟨Tryd.func32, trivial, trivial⟩, trivial⟩, ⟨Tryd.func35, trivial, trivial⟩⟩, ⟨Tryd.func47, ⟨Tryd.func41, trivial, trivial⟩, ⟨Tryd.func56, trivial, trivial⟩⟩⟩⟩⟩
def rt11 : BT (List Row) := (.node 1 [⟨0, 0⟩, ⟨1, 1⟩, ⟨2, 2⟩, ⟨0, 0⟩, ⟨8, 8⟩, ⟨16, 16⟩, ⟨0, 0⟩, ⟨64, 64⟩, ⟨128, 128⟩, ⟨0, 0⟩, ⟨512, 512⟩, ⟨1024, 1024⟩, ⟨2340, 2340⟩, ⟨8191, 4096⟩] .nil .nil)
theorem rw11 : RowAt Tryd.prog 11 rt11 := rowAt_of Tryd.func11 (by kernel_rfl)
def rtB : RowT := (.node 11 rt11 .nil .nil)
theorem rtB_ok : RtsOk Tryd.prog (rtsB rtB) := rtsB_ok ⟨rw11, trivial, trivial⟩

theorem own : ownKnob Tryd.prog.godebug = none := by kernel_rfl
theorem laidOut : laidOutB Tryd.prog = true := by kernel_rfl
theorem nogo : (Tryd.prog.funcs.all fun fn => fn.name != "runtime.NumGoroutine") = true := by kernel_rfl
theorem mixedOk : Tryd.prog.follows .mixedOrders = true := by kernel_rfl
/-- the types whose values are compared with no panic -/
noncomputable def seqB (t : TypeId) : Bool := !Tryd.prog.eqGuardType Tryd.prog.depth t && !Tryd.prog.stoodInHeld t
/-- the tables that the row lays, as rows that come in -/
def tabsL : List InD := [⟨[.int .u64], qZe [.c 1, .c 10, .c 100, .c 1000, .c 10000, .c 100000, .c 1000000, .c 10000000, .c 100000000, .c 1000000000, .c 10000000000, .c 100000000000, .c 1000000000000, .c 10000000000000, .c 100000000000000, .c 1000000000000000, .c 10000000000000000, .c 100000000000000000, .c 1000000000000000000, .c 10000000000000000000], .c 20, .c 20, some 2⟩, ⟨[.int .u8], qZe [.c 0, .c 1, .c 28, .c 2, .c 29, .c 14, .c 24, .c 3, .c 30, .c 22, .c 20, .c 15, .c 25, .c 17, .c 4, .c 8, .c 31, .c 27, .c 13, .c 23, .c 21, .c 19, .c 16, .c 7, .c 26, .c 12, .c 18, .c 6, .c 11, .c 5, .c 10, .c 9], .c 32, .c 32, some 8⟩, ⟨[.int .u8], qZe [.c 0, .c 1, .c 56, .c 2, .c 57, .c 49, .c 28, .c 3, .c 61, .c 58, .c 42, .c 50, .c 38, .c 29, .c 17, .c 4, .c 62, .c 47, .c 59, .c 36, .c 45, .c 43, .c 51, .c 22, .c 53, .c 39, .c 33, .c 30, .c 24, .c 18, .c 12, .c 5, .c 63, .c 55, .c 48, .c 27, .c 60, .c 41, .c 37, .c 16, .c 46, .c 35, .c 44, .c 21, .c 52, .c 32, .c 23, .c 11, .c 54, .c 26, .c 40, .c 15, .c 34, .c 20, .c 31, .c 10, .c 25, .c 14, .c 19, .c 9, .c 13, .c 8, .c 7, .c 6], .c 64, .c 64, some 9⟩, ⟨[.int .u8], qZe [.c 0, .c 0, .c 0, .c 0, .c 0, .c 0, .c 0, .c 0, .c 0, .c 1, .c 1, .c 1, .c 1, .c 1, .c 0, .c 0, .c 0, .c 0, .c 0, .c 0, .c 0, .c 0, .c 0, .c 0, .c 0, .c 0, .c 0, .c 0, .c 0, .c 0, .c 0, .c 0, .c 1, .c 0, .c 0, .c 0, .c 0, .c 0, .c 0, .c 0, .c 0, .c 0, .c 0, .c 0, .c 0, .c 0, .c 0, .c 0, .c 0, .c 0, .c 0, .c 0, .c 0, .c 0, .c 0, .c 0, .c 0, .c 0, .c 0, .c 0, .c 0, .c 0, .c 0, .c 0, .c 0, .c 0, .c 0, .c 0, .c 0, .c 0, .c 0, .c 0, .c 0, .c 0, .c 0, .c 0, .c 0, .c 0, .c 0, .c 0, .c 0, .c 0, .c 0, .c 0, .c 0, .c 0, .c 0, .c 0, .c 0, .c 0, .c 0, .c 0, .c 0, .c 0, .c 0, .c 0, .c 0, .c 0, .c 0, .c 0, .c 0, .c 0, .c 0, .c 0, .c 0, .c 0, .c 0, .c 0, .c 0, .c 0, .c 0, .c 0, .c 0, .c 0, .c 0, .c 0, .c 0, .c 0, .c 0, .c 0, .c 0, .c 0, .c 0, .c 0, .c 0, .c 0, .c 0, .c 0, .c 0, .c 0, .c 0, .c 0, .c 0, .c 0, .c 0, .c 0, .c 0, .c 0, .c 0, .c 0, .c 0, .c 0, .c 0, .c 0, .c 0, .c 0, .c 0, .c 0, .c 0, .c 0, .c 0, .c 0, .c 0, .c 0, .c 0, .c 0, .c 0, .c 0, .c 0, .c 0, .c 0, .c 0, .c 0, .c 0, .c 0, .c 0, .c 0, .c 0, .c 0, .c 0, .c 0, .c 0, .c 0, .c 0, .c 0, .c 0, .c 0, .c 0, .c 0, .c 0, .c 0, .c 0, .c 0, .c 0, .c 0, .c 0, .c 0, .c 0, .c 0, .c 0, .c 0, .c 0, .c 0, .c 0, .c 0, .c 0, .c 0, .c 0, .c 0, .c 0, .c 0, .c 0, .c 0, .c 0, .c 0, .c 0, .c 0, .c 0, .c 0, .c 0, .c 0, .c 0, .c 0, .c 0, .c 0, .c 0, .c 0, .c 0, .c 0, .c 0, .c 0, .c 0, .c 0, .c 0, .c 0, .c 0, .c 0, .c 0, .c 0, .c 0, .c 0, .c 0, .c 0, .c 0, .c 0, .c 0, .c 0, .c 0, .c 0, .c 0, .c 0, .c 0, .c 0, .c 0, .c 0, .c 0, .c 0, .c 0, .c 0, .c 0, .c 0, .c 0, .c 0, .c 0, .c 0, .c 0], .c 256, .c 256, some 0⟩, ⟨[], .c 0, .c 1, .c 1, some 5⟩, ⟨[], .c 0, .c 2, .c 2, some 3⟩]
/-- n: how deep a number may be without a name (0: none is named) -/
noncomputable def cxOf (n : Nat) : Cx :=
  { P := Tryd.prog, Γ := [], Φ := phiN, F := fN, lf := lfN, ins := [], tabs := tabsL, sh := n, und := undB tyB, inf := infB tyB, fn := fnB fuB, seq := seqB,
    undOk := undB_ok tyB_ok, infOk := fun _ _ h => BT.find_all tyB_ok h, fnOk := fun _ _ h => BT.find_all fuB_ok h,
    seqOk := fun t h => by unfold seqB at h; simpa using h }
theorem cxOf_ok (n : Nat) (m : Rc) : CxOk (m.cx (cxOf n)) :=
  ⟨mixedOk, fun f fn h => by
    have h1 := Array.all_eq_true.1 nogo
    obtain ⟨h2, h3⟩ := Array.getElem?_eq_some_iff.1 h
    have := h1 f h2
    have h4 : (Tryd.prog.funcs[f]'h2) = fn := h3
    rw [h4] at this
    simpa using this⟩
/-- the same, with what comes in -/
noncomputable def cxG (n : Nat) (Γ : List (Int × Int)) (ins : List InD) : Cx := { cxOf n with Γ := Γ, ins := ins ++ tabsL }
theorem tabsAll : (tabsL.all fun d => d.c.vb 0 && (d.n.vb 0 && d.cap.vb 0)) = true := by kernel_rfl
theorem tabsG (n : Nat) (Γ : List (Int × Int)) (ins : List InD) : TabsOk (cxG n Γ ins) := ⟨⟨ins, rfl⟩, fun d hd => by have := List.all_eq_true.1 tabsAll d hd; simp only [Bool.and_eq_true] at this; exact this⟩
theorem cxG_ok (n : Nat) (Γ : List (Int × Int)) (ins : List InD) : CxOk (cxG n Γ ins) :=
  ⟨mixedOk, fun f fn h => by
    have h1 := Array.all_eq_true.1 nogo
    obtain ⟨h2, h3⟩ := Array.getElem?_eq_some_iff.1 h
    have := h1 f h2
    have h4 : (Tryd.prog.funcs[f]'h2) = fn := h3
    rw [h4] at this
    simpa using this⟩
/-- a contract holds however much is named, and whatever else comes in -/
theorem rc_n {n k : Nat} {Γ : List (Int × Int)} {ins : List InD} {m : Rc} (h : RcOk (cxOf n) m) : RcOk (cxG k Γ ins) m :=
  fun ρ w hρ hc hp hr => h ρ w ⟨hρ.hi, hρ.hf, hρ.hv, hρ.hF, hρ.hP, hρ.hro⟩ hc hp hr
theorem rh_n {n k : Nat} {Γ : List (Int × Int)} {ins : List InD} {m : Rh} (h : RhOk (cxOf n) m) : RhOk (cxG k Γ ins) m :=
  fun ρ β w hρ hp hs => h ρ β w ⟨hρ.hi, hρ.hf, hρ.hv, hρ.hF, hρ.hP, hρ.hro⟩ hp hs
theorem mg {α : Type} {l : List α} {a : α} (i : Nat) (h : l[i]? = some a) : a ∈ l := List.mem_of_getElem? h
/-- the engine's runs -/
abbrev SMs := List (Int × Int) → List InD → Nat → SM
def SMsOk (sm : SMs) : Prop := ∀ Γ ins n, SmOk (cxG n Γ ins) (sm Γ ins n)
noncomputable def runC (sm : SMs) (Γ : List (Int × Int)) (ins : List InD) (n : Nat) : CF := execFn (cxG n Γ ins) (rtsB rtB) (sm Γ ins n) (fun _ _ => none) 40 30
theorem xok0 (cx : Cx) : XOk cx (fun _ _ => none) := fun _ _ _ _ _ _ _ h => by cases h
theorem runC_ok {sm : SMs} (h : SMsOk sm) (Γ : List (Int × Int)) (ins : List InD) (n : Nat) : qKu (cxG n Γ ins) (runC sm Γ ins n) := execFn_ok (cxG_ok n Γ ins) rtB_ok (h Γ ins n) (xok0 _) _
noncomputable def runG (sm : SMs) (lhs : LHS) (Γ : List (Int × Int)) (ins : List InD) (n : Nat) : CFT := execFnT (cxG n Γ ins) (rtsB rtB) (sm Γ ins n) (fun _ _ => none) lhs (runC sm Γ ins n) 40 30
theorem runG_ok {sm : SMs} (h : SMsOk sm) (lhs : LHS) (Γ : List (Int × Int)) (ins : List InD) (n : Nat) : qJc (cxG n Γ ins) (runG sm lhs Γ ins n) :=
  execFnT_ok (cxG_ok n Γ ins) rtB_ok (h Γ ins n) (xok0 _) (runC_ok h Γ ins n) _
noncomputable def runT (sm : SMs) (lhs : LHS) (m : Rc) (n : Nat) : CFT := runG sm lhs (bdsF m.ls) (qXu m.b m.c m.ls 0 0 0) n
theorem runT_ok {sm : SMs} (h : SMsOk sm) (lhs : LHS) (m : Rc) (n : Nat) : qJc (m.cx (cxOf n)) (runT sm lhs m n) := runG_ok h lhs _ _ n
noncomputable def runH (sm : SMs) (lhs : LHS) (m : Rk) (n : Nat) : CFT := runG sm lhs m.Γ m.ins n
theorem runH_ok {sm : SMs} (h : SMsOk sm) (lhs : LHS) (m : Rk) (n : Nat) : qJc (m.rh.cx (cxOf n)) (runH sm lhs m n) := runG_ok h lhs m.Γ m.ins n
/-! the parts of a contract's proof -/
noncomputable def fineR (n : Nat) (m : Rc) (t : TT (List E)) : Bool := TT.fine (m.cx (cxOf n)) 1000 [] t && (m.cx (cxOf n)).okB 1000 && SV.vbL 1000 m.args && TT.tidy (m.cx (cxOf n)) [] t
noncomputable def ranR (us : SMs) (lhs : LHS) (m : Rc) (n : Nat) (t : TT (List E)) : Bool := TT.beq (projL (m.pj (cxOf n)) (runT us lhs m n m.f m.args ⟨[], m.kn0⟩)) t
def statR (n : Nat) (m : Rc) (t : TT (List E)) (ρ : Env) : Prop := TT.hdP (m.cx (cxOf n)) (rlF ρ m.res) t ρ
theorem okR {us : SMs} {lhs : LHS} {m : Rc} {n : Nat} {t : TT (List E)} (hu : SMsOk us) (h1 : ranR us lhs m n t = true) (h2 : fineR n m t = true) (h3 : m.ok = true)
    (h : ∀ i v ro p, EnvOk (m.cx (cxOf n)) ⟨i, fN, v, ro, p⟩ → (∀ d ∈ qXu m.b m.c m.ls 0 0 0, d.n.ev ⟨i, fN, v, ro, p⟩ ≤ d.cap.ev ⟨i, fN, v, ro, p⟩) → (∀ e ∈ m.pre, e.evP ⟨i, fN, v, ro, p⟩ ≠ 0) → statR n m t ⟨i, fN, v, ro, p⟩) : RcOk (cxOf n) m :=
  rc_run (runT_ok hu lhs m n) h1 h2 h3 fun ρ hρ hcap hpre => by
    obtain ⟨i, f, v, ro, p⟩ := ρ
    have hf : f = fN := hρ.hF
    subst hf
    exact h i v ro p hρ hcap hpre
noncomputable def fineH (n : Nat) (m : Rk) (t : TT (List E)) : Bool := TT.fine (m.rh.cx (cxOf n)) 1000 [] t && (m.rh.cx (cxOf n)).okB 1000 && SV.vbL 1000 m.args && TT.tidy (m.rh.cx (cxOf n)) [] t
noncomputable def ranH (us : SMs) (lhs : LHS) (m : Rk) (n : Nat) (t : TT (List E)) : Bool := TT.beq (projL (m.pj (cxOf n)) (runH us lhs m n m.f m.args ⟨m.inb, m.kn0⟩)) t
def statH (n : Nat) (m : Rk) (t : TT (List E)) (ρ : Env) : Prop := TT.hdP (m.rh.cx (cxOf n)) (rsF ρ m.rs) t ρ
theorem okH {us : SMs} {lhs : LHS} {m : Rk} {n : Nat} {t : TT (List E)} (hu : SMsOk us) (h1 : ranH us lhs m n t = true) (h2 : fineH n m t = true) (h4 : blVb 1000 m.inb = true) (h3 : m.ok = true)
    (h : ∀ i v ro p, EnvOk (m.rh.cx (cxOf n)) ⟨i, fN, v, ro, p⟩ → (∀ e ∈ m.pre, e.evP ⟨i, fN, v, ro, p⟩ ≠ 0) → statH n m t ⟨i, fN, v, ro, p⟩) : RhOk (cxOf n) m.rh :=
  rk_run (runH_ok hu lhs m n) h1 h2 h4 h3 fun ρ hρ hpre => by
    obtain ⟨i, f, v, ro, p⟩ := ρ
    have hf : f = fN := hρ.hF
    subst hf
    exact h i v ro p hρ hpre
theorem den_row (ρ : Env) (β : Bt) (k z i j : Nat) : (SV.sl (.inp k) z (.c 0) (.v i) (some (.v j))).den ρ β = .slice (ρ.ro k).a (ρ.i i).toNat (ρ.i j).toNat := by
  simp only [SV.den, E.ev, map_addr_zero]
end Go.Proofs.YtppiabilakeadabDoor
