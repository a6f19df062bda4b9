/-
  The program's tables of types, of functions and of all regions that draw their order, as trees; the engine at this program. Printed by program.
-/
import Derived.Test.YtacchdmnhfkekabGu5
import Derived.Test.YtacchdmnhfkekabRows
import Derived.WalkKit
import Derived.ProofKit
set_option linter.unusedVariables false
set_option linter.unusedSimpArgs false
namespace Go.Proofs.Ytacchdmnhfkekab
open Go Go.Eng Go.RowKit
set_option maxRecDepth 100000
noncomputable def tyB : BT TypeInfo := (.node 46 Try.t46 (.node 24 Try.t24 (.node 9 Try.t9 (.node 5 Try.t5 (.node 3 Try.t3 .nil .nil) .nil) (.node 22 Try.t22 .nil .nil)) (.node 29 Try.t29 (.node 28 Try.t28 (.node 26 Try.t26 .nil .nil) .nil) (.node 32 Try.t32 .nil .nil))) (.node 63 Try.t63 (.node 52 Try.t52 (.node 51 Try.t51 (.node 50 Try.t50 .nil .nil) .nil) (.node 59 Try.t59 .nil .nil)) (.node 67 Try.t67 (.node 66 Try.t66 (.node 65 Try.t65 .nil .nil) .nil) (.node 68 Try.t68 .nil .nil))))
theorem tyB_ok : tyB.All fun i v => Try.prog.info? i = some v := ⟨Try.type46, ⟨Try.type24, ⟨Try.type9, ⟨Try.type5, ⟨Try.type3, trivial, trivial⟩, trivial⟩, ⟨Try.type22, trivial, trivial⟩⟩, ⟨Try.type29, ⟨Try.type28, ⟨Try.type26, trivial, trivial⟩, trivial⟩, ⟨Try.type32, trivial, trivial⟩⟩⟩, ⟨Try.type63, ⟨Try.type52, ⟨Try.type51, ⟨Try.type50, trivial, trivial⟩, trivial⟩, ⟨Try.type59, trivial, trivial⟩⟩, ⟨Try.type67, ⟨Try.type66, ⟨Try.type65, trivial, trivial⟩, trivial⟩, ⟨Try.type68, trivial, trivial⟩⟩⟩⟩
noncomputable def fuB : BT Func := (.node 34 Try.f34 (.node 11 Try.f11 (.node 7 Try.f7 (.node 5 Try.f5 (.node 4 Try.f4 (.node 3 Try.f3 .nil .nil) .nil) (.node 6 Try.f6 .nil .nil)) (.node 9 Try.f9 (.node 8 Try.f8 .nil .nil) (.node 10 Try.f10 .nil .nil))) (.node 26 Try.f26 (.node 24 Try.f24 (.node 23 Try.f23 .nil .nil) (.node 25 Try.f25 .nil .nil)) (.node 28 Try.f28 (.node 27 Try.f27 .nil .nil) (.node 29 Try.f29 .nil .nil)))) (.node 43 Try.f43 (.node 39 Try.f39 (.node 37 Try.f37 (.node 36 Try.f36 (.node 35 Try.f35 .nil .nil) .nil) (.node 38 Try.f38 .nil .nil)) (.node 41 Try.f41 (.node 40 Try.f40 .nil .nil) (.node 42 Try.f42 .nil .nil))) (.node 52 Try.f52 (.node 45 Try.f45 (.node 44 Try.f44 .nil .nil) (.node 46 Try.f46 .nil .nil)) (.node 57 Try.f57 (.node 56 Try.f56 .nil .nil) (.node 63 Try.f63 .nil .nil)))))
theorem fuB_ok : fuB.All fun i v => Try.prog.funcs[i]? = some v := ⟨Try.func34, ⟨Try.func11, ⟨Try.func7, ⟨Try.func5, ⟨Try.func4, ⟨Try.func3, trivial, trivial⟩, trivial⟩, ⟨Try.func6, trivial, trivial⟩⟩, ⟨Try.func9, ⟨Try.func8, trivial, trivial⟩, ⟨Try.func10, trivial, trivial⟩⟩⟩, ⟨Try.func26, ⟨Try.func24, ⟨Try.func23, trivial, trivial⟩, ⟨Try.func25, trivial, trivial⟩⟩, ⟨Try.func28, ⟨Try.func27, trivial, trivial⟩, ⟨Try.func29, trivial, trivial⟩⟩⟩⟩, ⟨Try.func43, ⟨Try.func39, ⟨Try.func37, ⟨Try.func36, ⟨Try.func35, trivial, trivial⟩, trivial⟩, ⟨Try.func38, trivial, trivial⟩⟩, ⟨Try.func41, ⟨Try.func40, trivial, trivial⟩, ⟨Try.func42, trivial, trivial⟩⟩⟩, ⟨Try.func52, ⟨Try.func45, ⟨Try.func44, trivial, trivial⟩, ⟨Try.func46, trivial, trivial⟩⟩, ⟨Try.func57, ⟨Try.func56, trivial, trivial⟩, ⟨Try.func63, trivial, trivial⟩⟩⟩⟩⟩
def rt3 : BT (List Row) := (.node 13 [⟨0, 0⟩, ⟨1, 1⟩, ⟨2, 2⟩, ⟨2, 2⟩, ⟨14, 14⟩, ⟨18, 18⟩, ⟨2, 2⟩, ⟨2, 2⟩, ⟨194, 194⟩, ⟨258, 258⟩, ⟨514, 514⟩, ⟨1058, 1058⟩, ⟨2050, 2050⟩, ⟨8191, 4097⟩] (.node 12 [⟨0, 0⟩, ⟨1, 1⟩, ⟨2, 2⟩, ⟨2, 2⟩, ⟨14, 14⟩, ⟨18, 18⟩, ⟨2, 2⟩, ⟨2, 2⟩, ⟨194, 194⟩, ⟨258, 258⟩, ⟨514, 514⟩, ⟨1058, 1058⟩, ⟨2050, 2050⟩, ⟨8191, 4097⟩] .nil .nil) (.node 14 [⟨0, 0⟩, ⟨0, 0⟩, ⟨0, 0⟩, ⟨6, 6⟩, ⟨8, 8⟩, ⟨16, 16⟩, ⟨0, 0⟩, ⟨0, 0⟩, ⟨192, 192⟩, ⟨256, 256⟩, ⟨545, 545⟩, ⟨1024, 1024⟩] .nil .nil))
theorem rw3 : RowAt Try.prog 3 rt3 := qXs Try.func3 (by kernel_rfl)
def rt6 : BT (List Row) := (.node 13 [⟨0, 0⟩, ⟨0, 0⟩, ⟨3, 3⟩, ⟨4, 4⟩, ⟨0, 0⟩, ⟨0, 0⟩, ⟨48, 48⟩, ⟨64, 64⟩, ⟨136, 136⟩, ⟨511, 3⟩, ⟨1023, 768⟩] .nil .nil)
theorem rw6 : RowAt Try.prog 6 rt6 := qXs Try.func6 (by kernel_rfl)
def rt11 : BT (List Row) := (.node 6 [⟨0, 0⟩, ⟨0, 0⟩, ⟨3, 3⟩, ⟨4, 4⟩, ⟨0, 0⟩, ⟨0, 0⟩, ⟨48, 48⟩, ⟨64, 64⟩, ⟨136, 136⟩] .nil .nil)
theorem rw11 : RowAt Try.prog 11 rt11 := qXs Try.func11 (by kernel_rfl)
def rt23 : BT (List Row) := (.node 6 [⟨0, 0⟩, ⟨0, 0⟩, ⟨3, 3⟩, ⟨4, 4⟩, ⟨0, 0⟩, ⟨0, 0⟩, ⟨48, 48⟩, ⟨64, 64⟩, ⟨136, 136⟩] .nil .nil)
theorem rw23 : RowAt Try.prog 23 rt23 := qXs Try.func23 (by kernel_rfl)
def rt29 : BT (List Row) := (.node 11 [⟨0, 0⟩, ⟨0, 0⟩, ⟨3, 3⟩, ⟨4, 4⟩, ⟨0, 0⟩, ⟨0, 0⟩, ⟨32, 32⟩, ⟨80, 80⟩, ⟨128, 128⟩, ⟨264, 264⟩] (.node 6 [⟨0, 0⟩, ⟨0, 0⟩, ⟨3, 3⟩, ⟨4, 4⟩, ⟨0, 0⟩, ⟨0, 0⟩, ⟨32, 32⟩, ⟨80, 80⟩, ⟨128, 128⟩, ⟨264, 264⟩] .nil .nil) .nil)
theorem rw29 : RowAt Try.prog 29 rt29 := qXs Try.func29 (by kernel_rfl)
def rt36 : BT (List Row) := (.node 8 [⟨0, 0⟩, ⟨0, 0⟩, ⟨2, 2⟩, ⟨4, 4⟩, ⟨8, 8⟩, ⟨16, 16⟩, ⟨32, 32⟩, ⟨0, 0⟩, ⟨128, 128⟩, ⟨256, 256⟩, ⟨512, 512⟩, ⟨1088, 1088⟩, ⟨0, 0⟩, ⟨4096, 4096⟩, ⟨10240, 10240⟩, ⟨16385, 16385⟩, ⟨65535, 32769⟩] .nil .nil)
theorem rw36 : RowAt Try.prog 36 rt36 := qXs Try.func36 (by kernel_rfl)
def rt38 : BT (List Row) := (.node 17 [⟨0, 0⟩, ⟨1, 1⟩, ⟨2, 2⟩, ⟨4, 4⟩, ⟨4, 4⟩, ⟨20, 20⟩, ⟨44, 44⟩, ⟨68, 68⟩, ⟨4, 4⟩, ⟨4, 4⟩, ⟨772, 772⟩, ⟨1028, 1028⟩, ⟨2180, 2180⟩, ⟨4100, 4100⟩, ⟨8196, 8196⟩] .nil .nil)
theorem rw38 : RowAt Try.prog 38 rt38 := qXs Try.func38 (by kernel_rfl)
def rt46 : BT (List Row) := (.node 6 [⟨0, 0⟩, ⟨0, 0⟩, ⟨0, 0⟩, ⟨0, 0⟩, ⟨8, 8⟩, ⟨0, 0⟩, ⟨0, 0⟩, ⟨64, 64⟩, ⟨160, 160⟩, ⟨256, 256⟩, ⟨0, 0⟩, ⟨0, 0⟩, ⟨3072, 3072⟩, ⟨4096, 4096⟩, ⟨9187, 3⟩, ⟨25571, 16896⟩, ⟨65535, 20⟩, ⟨131071, 73728⟩] (.node 4 [⟨0, 0⟩, ⟨0, 0⟩, ⟨3, 3⟩, ⟨4, 4⟩, ⟨8, 8⟩, ⟨8, 8⟩, ⟨56, 56⟩, ⟨72, 72⟩, ⟨8, 8⟩, ⟨8, 8⟩, ⟨520, 520⟩, ⟨1288, 1288⟩, ⟨2056, 2056⟩, ⟨4232, 4232⟩, ⟨8200, 8200⟩] .nil .nil) .nil)
theorem rw46 : RowAt Try.prog 46 rt46 := qXs Try.func46 (by kernel_rfl)
def rtB : RowT := (.node 29 rt29 (.node 11 rt11 (.node 6 rt6 (.node 3 rt3 .nil .nil) .nil) (.node 23 rt23 .nil .nil)) (.node 38 rt38 (.node 36 rt36 .nil .nil) (.node 46 rt46 .nil .nil)))
theorem rtB_ok : RtsOk Try.prog (rtsB rtB) := rtsB_ok ⟨rw29, ⟨rw11, ⟨rw6, ⟨rw3, trivial, trivial⟩, trivial⟩, ⟨rw23, trivial, trivial⟩⟩, ⟨rw38, ⟨rw36, trivial, trivial⟩, ⟨rw46, trivial, trivial⟩⟩⟩

theorem own : ownKnob Try.prog.godebug = none := by kernel_rfl
theorem laidOut : laidOutB Try.prog = true := by kernel_rfl
theorem nogo : (Try.prog.funcs.all fun fn => fn.name != "runtime.NumGoroutine") = true := by kernel_rfl
theorem mixedOk : Try.prog.follows .mixedOrders = true := by kernel_rfl
/-- the types whose values are compared with no panic -/
noncomputable def seqB (t : TypeId) : Bool := !Try.prog.eqGuardType Try.prog.depth t && !Try.prog.stoodInHeld t
/-- the tables that the row lays, as rows that come in -/
def tabsL : List InD := []
/-- n: how deep a number may be without a name (0: none is named) -/
noncomputable def cxOf (n : Nat) : Cx :=
  { P := Try.prog, Γ := [], Φ := phiN, F := fN, lf := lfN, ins := [], tabs := tabsL, sh := n, und := undB tyB, inf := infB tyB, fn := fnB fuB, seq := seqB,
    undOk := undB_ok tyB_ok, infOk := fun _ _ h => BT.find_all tyB_ok h, fnOk := fun _ _ h => BT.find_all fuB_ok h,
    seqOk := fun t h => by unfold seqB at h; simpa using h }
theorem cxOf_ok (n : Nat) (m : Rc) : CxOk (m.cx (cxOf n)) :=
  ⟨mixedOk, fun f fn h => by
    have h1 := Array.all_eq_true.1 nogo
    obtain ⟨h2, h3⟩ := Array.getElem?_eq_some_iff.1 h
    have := h1 f h2
    have h4 : (Try.prog.funcs[f]'h2) = fn := h3
    rw [h4] at this
    simpa using this⟩
/-- the same, with what comes in -/
noncomputable def cxG (n : Nat) (Γ : List (Int × Int)) (ins : List InD) : Cx := { cxOf n with Γ := Γ, ins := ins ++ tabsL }
theorem tabsAll : (tabsL.all fun d => d.c.vb 0 && (d.n.vb 0 && d.cap.vb 0)) = true := by kernel_rfl
theorem tabsG (n : Nat) (Γ : List (Int × Int)) (ins : List InD) : TabsOk (cxG n Γ ins) := ⟨⟨ins, rfl⟩, fun d hd => by have := List.all_eq_true.1 tabsAll d hd; simp only [Bool.and_eq_true] at this; exact this⟩
theorem cxG_ok (n : Nat) (Γ : List (Int × Int)) (ins : List InD) : CxOk (cxG n Γ ins) :=
  ⟨mixedOk, fun f fn h => by
    have h1 := Array.all_eq_true.1 nogo
    obtain ⟨h2, h3⟩ := Array.getElem?_eq_some_iff.1 h
    have := h1 f h2
    have h4 : (Try.prog.funcs[f]'h2) = fn := h3
    rw [h4] at this
    simpa using this⟩
/-- a contract holds however much is named, and whatever else comes in -/
theorem rc_n {n k : Nat} {Γ : List (Int × Int)} {ins : List InD} {m : Rc} (h : RcOk (cxOf n) m) : RcOk (cxG k Γ ins) m :=
  fun ρ w hρ hc hp hr => h ρ w ⟨hρ.hi, hρ.hf, hρ.hv, hρ.hF, hρ.hP, hρ.hro⟩ hc hp hr
theorem rh_n {n k : Nat} {Γ : List (Int × Int)} {ins : List InD} {m : Rh} (h : RhOk (cxOf n) m) : RhOk (cxG k Γ ins) m :=
  fun ρ β w hρ hp hs => h ρ β w ⟨hρ.hi, hρ.hf, hρ.hv, hρ.hF, hρ.hP, hρ.hro⟩ hp hs
theorem mg {α : Type} {l : List α} {a : α} (i : Nat) (h : l[i]? = some a) : a ∈ l := List.mem_of_getElem? h
/-- the engine's runs -/
abbrev SMs := List (Int × Int) → List InD → Nat → SM
def SMsOk (sm : SMs) : Prop := ∀ Γ ins n, SmOk (cxG n Γ ins) (sm Γ ins n)
noncomputable def runC (sm : SMs) (Γ : List (Int × Int)) (ins : List InD) (n : Nat) : CF := execFn (cxG n Γ ins) (rtsB rtB) (sm Γ ins n) (fun _ _ => none) 40 30
theorem xok0 (cx : Cx) : XOk cx (fun _ _ => none) := fun _ _ _ _ _ _ _ h => by cases h
theorem runC_ok {sm : SMs} (h : SMsOk sm) (Γ : List (Int × Int)) (ins : List InD) (n : Nat) : qKz (cxG n Γ ins) (runC sm Γ ins n) := execFn_ok (cxG_ok n Γ ins) rtB_ok (h Γ ins n) (xok0 _) _
noncomputable def runG (sm : SMs) (lhs : LHS) (Γ : List (Int × Int)) (ins : List InD) (n : Nat) : CFT := execFnT (cxG n Γ ins) (rtsB rtB) (sm Γ ins n) (fun _ _ => none) lhs (runC sm Γ ins n) 40 30
theorem runG_ok {sm : SMs} (h : SMsOk sm) (lhs : LHS) (Γ : List (Int × Int)) (ins : List InD) (n : Nat) : qJx (cxG n Γ ins) (runG sm lhs Γ ins n) :=
  execFnT_ok (cxG_ok n Γ ins) rtB_ok (h Γ ins n) (xok0 _) (runC_ok h Γ ins n) _
noncomputable def runT (sm : SMs) (lhs : LHS) (m : Rc) (n : Nat) : CFT := runG sm lhs (bdsF m.ls) (qXx m.b m.c m.ls 0 0 0) n
theorem runT_ok {sm : SMs} (h : SMsOk sm) (lhs : LHS) (m : Rc) (n : Nat) : qJx (m.cx (cxOf n)) (runT sm lhs m n) := runG_ok h lhs _ _ n
noncomputable def runH (sm : SMs) (lhs : LHS) (m : Rk) (n : Nat) : CFT := runG sm lhs m.Γ m.ins n
theorem runH_ok {sm : SMs} (h : SMsOk sm) (lhs : LHS) (m : Rk) (n : Nat) : qJx (m.rh.cx (cxOf n)) (runH sm lhs m n) := runG_ok h lhs m.Γ m.ins n
/-! the parts of a contract's proof -/
noncomputable def fineR (n : Nat) (m : Rc) (t : TT (List E)) : Bool := TT.fine (m.cx (cxOf n)) 1000 [] t && (m.cx (cxOf n)).okB 1000 && SV.vbL 1000 m.args && TT.tidy (m.cx (cxOf n)) [] t
noncomputable def ranR (us : SMs) (lhs : LHS) (m : Rc) (n : Nat) (t : TT (List E)) : Bool := TT.beq (projL (m.pj (cxOf n)) (runT us lhs m n m.f m.args ⟨[], m.kn0⟩)) t
def statR (n : Nat) (m : Rc) (t : TT (List E)) (ρ : Env) : Prop := TT.hdP (m.cx (cxOf n)) (rlF ρ m.res) t ρ
theorem okR {us : SMs} {lhs : LHS} {m : Rc} {n : Nat} {t : TT (List E)} (hu : SMsOk us) (h1 : ranR us lhs m n t = true) (h2 : fineR n m t = true) (h3 : m.ok = true)
    (h : ∀ i v ro p, EnvOk (m.cx (cxOf n)) ⟨i, fN, v, ro, p⟩ → (∀ d ∈ qXx m.b m.c m.ls 0 0 0, d.n.ev ⟨i, fN, v, ro, p⟩ ≤ d.cap.ev ⟨i, fN, v, ro, p⟩) → (∀ e ∈ m.pre, e.evP ⟨i, fN, v, ro, p⟩ ≠ 0) → statR n m t ⟨i, fN, v, ro, p⟩) : RcOk (cxOf n) m :=
  rc_run (runT_ok hu lhs m n) h1 h2 h3 fun ρ hρ hcap hpre => by
    obtain ⟨i, f, v, ro, p⟩ := ρ
    have hf : f = fN := hρ.hF
    subst hf
    exact h i v ro p hρ hcap hpre
noncomputable def fineH (n : Nat) (m : Rk) (t : TT (List E)) : Bool := TT.fine (m.rh.cx (cxOf n)) 1000 [] t && (m.rh.cx (cxOf n)).okB 1000 && SV.vbL 1000 m.args && TT.tidy (m.rh.cx (cxOf n)) [] t
noncomputable def ranH (us : SMs) (lhs : LHS) (m : Rk) (n : Nat) (t : TT (List E)) : Bool := TT.beq (projL (m.pj (cxOf n)) (runH us lhs m n m.f m.args ⟨m.inb, m.kn0⟩)) t
def statH (n : Nat) (m : Rk) (t : TT (List E)) (ρ : Env) : Prop := TT.hdP (m.rh.cx (cxOf n)) (rsF ρ m.rs) t ρ
theorem okH {us : SMs} {lhs : LHS} {m : Rk} {n : Nat} {t : TT (List E)} (hu : SMsOk us) (h1 : ranH us lhs m n t = true) (h2 : fineH n m t = true) (h4 : blVb 1000 m.inb = true) (h3 : m.ok = true)
    (h : ∀ i v ro p, EnvOk (m.rh.cx (cxOf n)) ⟨i, fN, v, ro, p⟩ → (∀ e ∈ m.pre, e.evP ⟨i, fN, v, ro, p⟩ ≠ 0) → statH n m t ⟨i, fN, v, ro, p⟩) : RhOk (cxOf n) m.rh :=
  rk_run (runH_ok hu lhs m n) h1 h2 h4 h3 fun ρ hρ hpre => by
    obtain ⟨i, f, v, ro, p⟩ := ρ
    have hf : f = fN := hρ.hF
    subst hf
    exact h i v ro p hρ hpre
theorem den_row (ρ : Env) (β : Bt) (k z i j : Nat) : (SV.sl (.inp k) z (.c 0) (.v i) (some (.v j))).den ρ β = .slice (ρ.ro k).a (ρ.i i).toNat (ρ.i j).toNat := by
  simp only [SV.den, E.ev, qXe]
end Go.Proofs.Ytacchdmnhfkekab
