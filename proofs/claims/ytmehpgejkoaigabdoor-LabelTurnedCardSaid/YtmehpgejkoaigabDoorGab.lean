/-
  The program's tables of types, of functions and of all regions that draw their order, as trees; the engine at this program. Printed by program.
-/
import Derived.Test.YtmehpgejkoaigabDoorGu5
import Derived.Test.YtmehpgejkoaigabDoorRows
import Derived.WalkKit
import Derived.ProofKit
set_option linter.unusedVariables false
set_option linter.unusedSimpArgs false
namespace Go.Proofs.YtmehpgejkoaigabDoor
open Go Go.Eng Go.RowKit
set_option maxRecDepth 100000
noncomputable def tyB : BT TypeInfo := (.node 39 Tryd.t39 (.node 26 Tryd.t26 (.node 9 Tryd.t9 (.node 4 Tryd.t4 (.node 3 Tryd.t3 .nil .nil) .nil) (.node 24 Tryd.t24 (.node 22 Tryd.t22 .nil .nil) .nil)) (.node 30 Tryd.t30 (.node 28 Tryd.t28 (.node 27 Tryd.t27 .nil .nil) .nil) (.node 38 Tryd.t38 (.node 35 Tryd.t35 .nil .nil) .nil))) (.node 49 Tryd.t49 (.node 44 Tryd.t44 (.node 41 Tryd.t41 (.node 40 Tryd.t40 .nil .nil) .nil) (.node 48 Tryd.t48 (.node 45 Tryd.t45 .nil .nil) .nil)) (.node 57 Tryd.t57 (.node 56 Tryd.t56 (.node 54 Tryd.t54 .nil .nil) .nil) (.node 58 Tryd.t58 .nil .nil))))
theorem tyB_ok : tyB.All fun i v => Tryd.prog.info? i = some v := ⟨Tryd.type39, ⟨Tryd.type26, ⟨Tryd.type9, ⟨Tryd.type4, ⟨Tryd.type3, trivial, trivial⟩, trivial⟩, ⟨Tryd.type24, ⟨Tryd.type22, trivial, trivial⟩, trivial⟩⟩, ⟨Tryd.type30, ⟨Tryd.type28, ⟨Tryd.type27, trivial, trivial⟩, trivial⟩, ⟨Tryd.type38, ⟨Tryd.type35, trivial, trivial⟩, trivial⟩⟩⟩, ⟨Tryd.type49, ⟨Tryd.type44, ⟨Tryd.type41, ⟨Tryd.type40, trivial, trivial⟩, trivial⟩, ⟨Tryd.type48, ⟨Tryd.type45, trivial, trivial⟩, trivial⟩⟩, ⟨Tryd.type57, ⟨Tryd.type56, ⟨Tryd.type54, trivial, trivial⟩, trivial⟩, ⟨Tryd.type58, trivial, trivial⟩⟩⟩⟩
noncomputable def fuB : BT Func := (.node 11 Tryd.f11 (.node 7 Tryd.f7 (.node 5 Tryd.f5 (.node 4 Tryd.f4 (.node 3 Tryd.f3 .nil .nil) .nil) (.node 6 Tryd.f6 .nil .nil)) (.node 9 Tryd.f9 (.node 8 Tryd.f8 .nil .nil) (.node 10 Tryd.f10 .nil .nil))) (.node 16 Tryd.f16 (.node 14 Tryd.f14 (.node 13 Tryd.f13 (.node 12 Tryd.f12 .nil .nil) .nil) (.node 15 Tryd.f15 .nil .nil)) (.node 19 Tryd.f19 (.node 17 Tryd.f17 .nil .nil) (.node 20 Tryd.f20 .nil .nil))))
theorem fuB_ok : fuB.All fun i v => Tryd.prog.funcs[i]? = some v := ⟨Tryd.func11, ⟨Tryd.func7, ⟨Tryd.func5, ⟨Tryd.func4, ⟨Tryd.func3, trivial, trivial⟩, trivial⟩, ⟨Tryd.func6, trivial, trivial⟩⟩, ⟨Tryd.func9, ⟨Tryd.func8, trivial, trivial⟩, ⟨Tryd.func10, trivial, trivial⟩⟩⟩, ⟨Tryd.func16, ⟨Tryd.func14, ⟨Tryd.func13, ⟨Tryd.func12, trivial, trivial⟩, trivial⟩, ⟨Tryd.func15, trivial, trivial⟩⟩, ⟨Tryd.func19, ⟨Tryd.func17, trivial, trivial⟩, ⟨Tryd.func20, trivial, trivial⟩⟩⟩⟩
def rt3 : BT (List Row) := (.node 16 [⟨0, 0⟩, ⟨0, 0⟩, ⟨0, 0⟩, ⟨6, 6⟩, ⟨8, 8⟩, ⟨16, 16⟩, ⟨0, 0⟩, ⟨0, 0⟩, ⟨192, 192⟩, ⟨256, 256⟩, ⟨512, 512⟩, ⟨1057, 1057⟩] (.node 15 [⟨0, 0⟩, ⟨0, 0⟩, ⟨0, 0⟩, ⟨6, 6⟩, ⟨8, 8⟩, ⟨16, 16⟩, ⟨0, 0⟩, ⟨0, 0⟩, ⟨192, 192⟩, ⟨256, 256⟩, ⟨512, 512⟩, ⟨1057, 1057⟩] (.node 10 [⟨0, 0⟩, ⟨0, 0⟩, ⟨0, 0⟩, ⟨6, 6⟩, ⟨8, 8⟩, ⟨16, 16⟩, ⟨0, 0⟩, ⟨0, 0⟩, ⟨192, 192⟩, ⟨256, 256⟩, ⟨512, 512⟩, ⟨1057, 1057⟩] .nil .nil) .nil) (.node 21 [⟨0, 0⟩, ⟨0, 0⟩, ⟨0, 0⟩, ⟨6, 6⟩, ⟨8, 8⟩, ⟨16, 16⟩, ⟨0, 0⟩, ⟨0, 0⟩, ⟨192, 192⟩, ⟨256, 256⟩, ⟨512, 512⟩, ⟨1057, 1057⟩] .nil .nil))
theorem rw3 : RowAt Tryd.prog 3 rt3 := rowAt_of Tryd.func3 (by kernel_rfl)
def rt8 : BT (List Row) := (.node 6 [⟨0, 0⟩, ⟨1, 1⟩, ⟨2, 2⟩, ⟨4, 4⟩, ⟨0, 0⟩, ⟨31, 8⟩, ⟨63, 0⟩] .nil .nil)
theorem rw8 : RowAt Tryd.prog 8 rt8 := rowAt_of Tryd.func8 (by kernel_rfl)
def rt9 : BT (List Row) := (.node 6 [⟨0, 0⟩, ⟨0, 0⟩, ⟨3, 3⟩, ⟨4, 4⟩, ⟨0, 0⟩, ⟨0, 0⟩, ⟨48, 48⟩, ⟨64, 64⟩, ⟨136, 136⟩] .nil .nil)
theorem rw9 : RowAt Tryd.prog 9 rt9 := rowAt_of Tryd.func9 (by kernel_rfl)
def rt10 : BT (List Row) := (.node 6 [⟨0, 0⟩, ⟨0, 0⟩, ⟨3, 3⟩, ⟨4, 4⟩, ⟨0, 0⟩, ⟨0, 0⟩, ⟨48, 48⟩, ⟨64, 64⟩, ⟨136, 136⟩] .nil .nil)
theorem rw10 : RowAt Tryd.prog 10 rt10 := rowAt_of Tryd.func10 (by kernel_rfl)
def rt16 : BT (List Row) := (.node 7 [⟨0, 0⟩, ⟨1, 1⟩, ⟨2, 2⟩, ⟨4, 4⟩, ⟨8, 8⟩, ⟨0, 0⟩, ⟨63, 16⟩] .nil .nil)
theorem rw16 : RowAt Tryd.prog 16 rt16 := rowAt_of Tryd.func16 (by kernel_rfl)
def rtB : RowT := (.node 9 rt9 (.node 8 rt8 (.node 3 rt3 .nil .nil) .nil) (.node 16 rt16 (.node 10 rt10 .nil .nil) .nil))
theorem rtB_ok : RtsOk Tryd.prog (rtsB rtB) := rtsB_ok ⟨rw9, ⟨rw8, ⟨rw3, trivial, trivial⟩, trivial⟩, ⟨rw16, ⟨rw10, trivial, trivial⟩, trivial⟩⟩

theorem own : ownKnob Tryd.prog.godebug = none := by kernel_rfl
theorem laidOut : laidOutB Tryd.prog = true := by kernel_rfl
theorem nogo : (Tryd.prog.funcs.all fun fn => fn.name != "runtime.NumGoroutine") = true := by kernel_rfl
theorem mixedOk : Tryd.prog.follows .mixedOrders = true := by kernel_rfl
/-- the types whose values are compared with no panic -/
noncomputable def seqB (t : TypeId) : Bool := !Tryd.prog.eqGuardType Tryd.prog.depth t && !Tryd.prog.stoodInHeld t
/-- the tables that the row lays, as rows that come in -/
def tabsL : List InD := [⟨[], .c 0, .c 1, .c 1, some 1⟩, ⟨[], .c 0, .c 1004086051, .c 1004086051, some 0⟩]
/-- n: how deep a number may be without a name (0: none is named) -/
noncomputable def cxOf (n : Nat) : Cx :=
  { P := Tryd.prog, Γ := [], Φ := phiN, F := fN, lf := lfN, ins := [], tabs := tabsL, sh := n, und := undB tyB, inf := infB tyB, fn := fnB fuB, seq := seqB,
    undOk := undB_ok tyB_ok, infOk := fun _ _ h => BT.find_all tyB_ok h, fnOk := fun _ _ h => BT.find_all fuB_ok h,
    seqOk := fun t h => by unfold seqB at h; simpa using h }
theorem cxOf_ok (n : Nat) (m : Rc) : CxOk (m.cx (cxOf n)) :=
  ⟨mixedOk, fun f fn h => by
    have h1 := Array.all_eq_true.1 nogo
    obtain ⟨h2, h3⟩ := Array.getElem?_eq_some_iff.1 h
    have := h1 f h2
    have h4 : (Tryd.prog.funcs[f]'h2) = fn := h3
    rw [h4] at this
    simpa using this⟩
/-- the same, with what comes in -/
noncomputable def cxG (n : Nat) (Γ : List (Int × Int)) (ins : List InD) : Cx := { cxOf n with Γ := Γ, ins := ins ++ tabsL }
theorem tabsAll : (tabsL.all fun d => d.c.vb 0 && (d.n.vb 0 && d.cap.vb 0)) = true := by kernel_rfl
theorem tabsG (n : Nat) (Γ : List (Int × Int)) (ins : List InD) : TabsOk (cxG n Γ ins) := ⟨⟨ins, rfl⟩, fun d hd => by have := List.all_eq_true.1 tabsAll d hd; simp only [Bool.and_eq_true] at this; exact this⟩
theorem cxG_ok (n : Nat) (Γ : List (Int × Int)) (ins : List InD) : CxOk (cxG n Γ ins) :=
  ⟨mixedOk, fun f fn h => by
    have h1 := Array.all_eq_true.1 nogo
    obtain ⟨h2, h3⟩ := Array.getElem?_eq_some_iff.1 h
    have := h1 f h2
    have h4 : (Tryd.prog.funcs[f]'h2) = fn := h3
    rw [h4] at this
    simpa using this⟩
/-- a contract holds however much is named, and whatever else comes in -/
theorem rc_n {n k : Nat} {Γ : List (Int × Int)} {ins : List InD} {m : Rc} (h : RcOk (cxOf n) m) : RcOk (cxG k Γ ins) m :=
  fun ρ w hρ hc hp hr => h ρ w ⟨hρ.hi, hρ.hf, hρ.hv, hρ.hF, hρ.hP, hρ.hro⟩ hc hp hr
theorem rh_n {n k : Nat} {Γ : List (Int × Int)} {ins : List InD} {m : Rh} (h : RhOk (cxOf n) m) : RhOk (cxG k Γ ins) m :=
  fun ρ β w hρ hp hs => h ρ β w ⟨hρ.hi, hρ.hf, hρ.hv, hρ.hF, hρ.hP, hρ.hro⟩ hp hs
theorem mg {α : Type} {l : List α} {a : α} (i : Nat) (h : l[i]? = some a) : a ∈ l := List.mem_of_getElem? h
/-- the engine's runs -/
abbrev SMs := List (Int × Int) → List InD → Nat → SM
def SMsOk (sm : SMs) : Prop := ∀ Γ ins n, SmOk (cxG n Γ ins) (sm Γ ins n)
noncomputable def runC (sm : SMs) (Γ : List (Int × Int)) (ins : List InD) (n : Nat) : CF := execFn (cxG n Γ ins) (rtsB rtB) (sm Γ ins n) (fun _ _ => none) 40 30
theorem xok0 (cx : Cx) : XOk cx (fun _ _ => none) := fun _ _ _ _ _ _ _ h => by cases h
theorem runC_ok {sm : SMs} (h : SMsOk sm) (Γ : List (Int × Int)) (ins : List InD) (n : Nat) : qKj (cxG n Γ ins) (runC sm Γ ins n) := execFn_ok (cxG_ok n Γ ins) rtB_ok (h Γ ins n) (xok0 _) _
noncomputable def runG (sm : SMs) (lhs : LHS) (Γ : List (Int × Int)) (ins : List InD) (n : Nat) : CFT := execFnT (cxG n Γ ins) (rtsB rtB) (sm Γ ins n) (fun _ _ => none) lhs (runC sm Γ ins n) 40 30
theorem runG_ok {sm : SMs} (h : SMsOk sm) (lhs : LHS) (Γ : List (Int × Int)) (ins : List InD) (n : Nat) : qJx (cxG n Γ ins) (runG sm lhs Γ ins n) :=
  execFnT_ok (cxG_ok n Γ ins) rtB_ok (h Γ ins n) (xok0 _) (runC_ok h Γ ins n) _
noncomputable def runT (sm : SMs) (lhs : LHS) (m : Rc) (n : Nat) : CFT := runG sm lhs (bdsF m.ls) (qXb m.b m.c m.ls 0 0 0) n
theorem runT_ok {sm : SMs} (h : SMsOk sm) (lhs : LHS) (m : Rc) (n : Nat) : qJx (m.cx (cxOf n)) (runT sm lhs m n) := runG_ok h lhs _ _ n
noncomputable def runH (sm : SMs) (lhs : LHS) (m : Rk) (n : Nat) : CFT := runG sm lhs m.Γ m.ins n
theorem runH_ok {sm : SMs} (h : SMsOk sm) (lhs : LHS) (m : Rk) (n : Nat) : qJx (m.rh.cx (cxOf n)) (runH sm lhs m n) := runG_ok h lhs m.Γ m.ins n
/-! the parts of a contract's proof -/
noncomputable def fineR (n : Nat) (m : Rc) (t : TT (List E)) : Bool := TT.fine (m.cx (cxOf n)) 1000 [] t && (m.cx (cxOf n)).okB 1000 && SV.vbL 1000 m.args && TT.tidy (m.cx (cxOf n)) [] t
noncomputable def ranR (us : SMs) (lhs : LHS) (m : Rc) (n : Nat) (t : TT (List E)) : Bool := TT.beq (projL (m.pj (cxOf n)) (runT us lhs m n m.f m.args ⟨[], m.kn0⟩)) t
def statR (n : Nat) (m : Rc) (t : TT (List E)) (ρ : Env) : Prop := TT.hdP (m.cx (cxOf n)) (rlF ρ m.res) t ρ
theorem okR {us : SMs} {lhs : LHS} {m : Rc} {n : Nat} {t : TT (List E)} (hu : SMsOk us) (h1 : ranR us lhs m n t = true) (h2 : fineR n m t = true) (h3 : m.ok = true)
    (h : ∀ i v ro p, EnvOk (m.cx (cxOf n)) ⟨i, fN, v, ro, p⟩ → (∀ d ∈ qXb m.b m.c m.ls 0 0 0, d.n.ev ⟨i, fN, v, ro, p⟩ ≤ d.cap.ev ⟨i, fN, v, ro, p⟩) → (∀ e ∈ m.pre, e.evP ⟨i, fN, v, ro, p⟩ ≠ 0) → statR n m t ⟨i, fN, v, ro, p⟩) : RcOk (cxOf n) m :=
  rc_run (runT_ok hu lhs m n) h1 h2 h3 fun ρ hρ hcap hpre => by
    obtain ⟨i, f, v, ro, p⟩ := ρ
    have hf : f = fN := hρ.hF
    subst hf
    exact h i v ro p hρ hcap hpre
noncomputable def fineH (n : Nat) (m : Rk) (t : TT (List E)) : Bool := TT.fine (m.rh.cx (cxOf n)) 1000 [] t && (m.rh.cx (cxOf n)).okB 1000 && SV.vbL 1000 m.args && TT.tidy (m.rh.cx (cxOf n)) [] t
noncomputable def ranH (us : SMs) (lhs : LHS) (m : Rk) (n : Nat) (t : TT (List E)) : Bool := TT.beq (projL (m.pj (cxOf n)) (runH us lhs m n m.f m.args ⟨m.inb, m.kn0⟩)) t
def statH (n : Nat) (m : Rk) (t : TT (List E)) (ρ : Env) : Prop := TT.hdP (m.rh.cx (cxOf n)) (rsF ρ m.rs) t ρ
theorem okH {us : SMs} {lhs : LHS} {m : Rk} {n : Nat} {t : TT (List E)} (hu : SMsOk us) (h1 : ranH us lhs m n t = true) (h2 : fineH n m t = true) (h4 : blVb 1000 m.inb = true) (h3 : m.ok = true)
    (h : ∀ i v ro p, EnvOk (m.rh.cx (cxOf n)) ⟨i, fN, v, ro, p⟩ → (∀ e ∈ m.pre, e.evP ⟨i, fN, v, ro, p⟩ ≠ 0) → statH n m t ⟨i, fN, v, ro, p⟩) : RhOk (cxOf n) m.rh :=
  rk_run (runH_ok hu lhs m n) h1 h2 h4 h3 fun ρ hρ hpre => by
    obtain ⟨i, f, v, ro, p⟩ := ρ
    have hf : f = fN := hρ.hF
    subst hf
    exact h i v ro p hρ hpre
theorem den_row (ρ : Env) (β : Bt) (k z i j : Nat) : (SV.sl (.inp k) z (.c 0) (.v i) (some (.v j))).den ρ β = .slice (ρ.ro k).a (ρ.i i).toNat (ρ.i j).toNat := by
  simp only [SV.den, E.ev, map_addr_zero]
end Go.Proofs.YtmehpgejkoaigabDoor
