/-
  The program's tables of types, of functions and of all regions that draw their order, as trees; the engine at this program. Printed by program.
-/
import Derived.Test.YtieocjnfjjgjeabGu5
import Derived.Test.YtieocjnfjjgjeabRows
import Derived.WalkKit
import Derived.ProofKit
set_option linter.unusedVariables false
set_option linter.unusedSimpArgs false
namespace Go.Proofs.Ytieocjnfjjgjeab
open Go Go.Eng Go.RowKit
set_option maxRecDepth 100000
noncomputable def tyB : BT TypeInfo := (.node 26 Try.t26 (.node 22 Try.t22 (.node 5 Try.t5 (.node 3 Try.t3 .nil .nil) (.node 9 Try.t9 .nil .nil)) (.node 25 Try.t25 (.node 24 Try.t24 .nil .nil) .nil)) (.node 34 Try.t34 (.node 30 Try.t30 (.node 29 Try.t29 .nil .nil) .nil) (.node 76 Try.t76 (.node 59 Try.t59 .nil .nil) .nil)))
theorem tyB_ok : tyB.All fun i v => Try.prog.info? i = some v := ⟨Try.type26, ⟨Try.type22, ⟨Try.type5, ⟨Try.type3, trivial, trivial⟩, ⟨Try.type9, trivial, trivial⟩⟩, ⟨Try.type25, ⟨Try.type24, trivial, trivial⟩, trivial⟩⟩, ⟨Try.type34, ⟨Try.type30, ⟨Try.type29, trivial, trivial⟩, trivial⟩, ⟨Try.type76, ⟨Try.type59, trivial, trivial⟩, trivial⟩⟩⟩
noncomputable def fuB : BT Func := (.node 21 Try.f21 (.node 10 Try.f10 (.node 6 Try.f6 (.node 4 Try.f4 (.node 3 Try.f3 .nil .nil) (.node 5 Try.f5 .nil .nil)) (.node 8 Try.f8 (.node 7 Try.f7 .nil .nil) (.node 9 Try.f9 .nil .nil))) (.node 17 Try.f17 (.node 12 Try.f12 (.node 11 Try.f11 .nil .nil) (.node 13 Try.f13 .nil .nil)) (.node 19 Try.f19 (.node 18 Try.f18 .nil .nil) (.node 20 Try.f20 .nil .nil)))) (.node 32 Try.f32 (.node 28 Try.f28 (.node 23 Try.f23 (.node 22 Try.f22 .nil .nil) (.node 26 Try.f26 .nil .nil)) (.node 30 Try.f30 (.node 29 Try.f29 .nil .nil) (.node 31 Try.f31 .nil .nil))) (.node 49 Try.f49 (.node 42 Try.f42 (.node 41 Try.f41 .nil .nil) (.node 43 Try.f43 .nil .nil)) (.node 62 Try.f62 (.node 57 Try.f57 .nil .nil) .nil))))
theorem fuB_ok : fuB.All fun i v => Try.prog.funcs[i]? = some v := ⟨Try.func21, ⟨Try.func10, ⟨Try.func6, ⟨Try.func4, ⟨Try.func3, trivial, trivial⟩, ⟨Try.func5, trivial, trivial⟩⟩, ⟨Try.func8, ⟨Try.func7, trivial, trivial⟩, ⟨Try.func9, trivial, trivial⟩⟩⟩, ⟨Try.func17, ⟨Try.func12, ⟨Try.func11, trivial, trivial⟩, ⟨Try.func13, trivial, trivial⟩⟩, ⟨Try.func19, ⟨Try.func18, trivial, trivial⟩, ⟨Try.func20, trivial, trivial⟩⟩⟩⟩, ⟨Try.func32, ⟨Try.func28, ⟨Try.func23, ⟨Try.func22, trivial, trivial⟩, ⟨Try.func26, trivial, trivial⟩⟩, ⟨Try.func30, ⟨Try.func29, trivial, trivial⟩, ⟨Try.func31, trivial, trivial⟩⟩⟩, ⟨Try.func49, ⟨Try.func42, ⟨Try.func41, trivial, trivial⟩, ⟨Try.func43, trivial, trivial⟩⟩, ⟨Try.func62, ⟨Try.func57, trivial, trivial⟩, trivial⟩⟩⟩⟩
def rt3 : BT (List Row) := (.node 22 [⟨0, 0⟩, ⟨0, 0⟩, ⟨3, 3⟩, ⟨4, 4⟩, ⟨8, 8⟩, ⟨0, 0⟩, ⟨0, 0⟩, ⟨64, 64⟩, ⟨160, 160⟩, ⟨256, 256⟩, ⟨512, 512⟩, ⟨1040, 1040⟩] .nil .nil)
theorem rw3 : RowAt Try.prog 3 rt3 := qXj Try.func3 (by kernel_rfl)
def rt5 : BT (List Row) := (.node 12 [⟨0, 0⟩, ⟨0, 0⟩, ⟨2, 2⟩, ⟨0, 0⟩, ⟨8, 8⟩, ⟨0, 0⟩, ⟨0, 0⟩, ⟨96, 96⟩, ⟨128, 128⟩, ⟨0, 0⟩, ⟨0, 0⟩, ⟨1536, 1536⟩, ⟨2048, 2048⟩, ⟨4372, 4372⟩, ⟨8192, 8192⟩, ⟨16385, 16385⟩, ⟨65535, 32768⟩] .nil .nil)
theorem rw5 : RowAt Try.prog 5 rt5 := qXj Try.func5 (by kernel_rfl)
def rt7 : BT (List Row) := (.node 6 [⟨0, 0⟩, ⟨0, 0⟩, ⟨3, 3⟩, ⟨4, 4⟩, ⟨0, 0⟩, ⟨0, 0⟩, ⟨48, 48⟩, ⟨64, 64⟩, ⟨136, 136⟩] .nil .nil)
theorem rw7 : RowAt Try.prog 7 rt7 := qXj Try.func7 (by kernel_rfl)
def rt8 : BT (List Row) := (.node 6 [⟨0, 0⟩, ⟨0, 0⟩, ⟨3, 3⟩, ⟨4, 4⟩, ⟨0, 0⟩, ⟨0, 0⟩, ⟨48, 48⟩, ⟨64, 64⟩, ⟨136, 136⟩] .nil .nil)
theorem rw8 : RowAt Try.prog 8 rt8 := qXj Try.func8 (by kernel_rfl)
def rt13 : BT (List Row) := (.node 5 [⟨0, 0⟩, ⟨0, 0⟩, ⟨3, 3⟩, ⟨4, 4⟩, ⟨0, 0⟩, ⟨0, 0⟩, ⟨48, 48⟩, ⟨64, 64⟩, ⟨136, 136⟩] .nil .nil)
theorem rw13 : RowAt Try.prog 13 rt13 := qXj Try.func13 (by kernel_rfl)
def rt23 : BT (List Row) := (.node 11 [⟨0, 0⟩, ⟨0, 0⟩, ⟨3, 3⟩, ⟨4, 4⟩, ⟨0, 0⟩, ⟨0, 0⟩, ⟨32, 32⟩, ⟨80, 80⟩, ⟨128, 128⟩, ⟨264, 264⟩] (.node 6 [⟨0, 0⟩, ⟨0, 0⟩, ⟨3, 3⟩, ⟨4, 4⟩, ⟨0, 0⟩, ⟨0, 0⟩, ⟨32, 32⟩, ⟨80, 80⟩, ⟨128, 128⟩, ⟨264, 264⟩] .nil .nil) .nil)
theorem rw23 : RowAt Try.prog 23 rt23 := qXj Try.func23 (by kernel_rfl)
def rt30 : BT (List Row) := (.node 3 [⟨0, 0⟩, ⟨0, 0⟩, ⟨0, 0⟩, ⟨4, 4⟩, ⟨10, 10⟩, ⟨16, 16⟩, ⟨0, 0⟩, ⟨0, 0⟩, ⟨192, 192⟩, ⟨256, 256⟩, ⟨545, 545⟩, ⟨1024, 1024⟩] .nil .nil)
theorem rw30 : RowAt Try.prog 30 rt30 := qXj Try.func30 (by kernel_rfl)
def rt31 : BT (List Row) := (.node 17 [⟨0, 0⟩, ⟨1, 1⟩, ⟨2, 2⟩, ⟨4, 4⟩, ⟨4, 4⟩, ⟨20, 20⟩, ⟨44, 44⟩, ⟨68, 68⟩, ⟨4, 4⟩, ⟨4, 4⟩, ⟨772, 772⟩, ⟨1028, 1028⟩, ⟨2180, 2180⟩, ⟨4100, 4100⟩, ⟨8196, 8196⟩] .nil .nil)
theorem rw31 : RowAt Try.prog 31 rt31 := qXj Try.func31 (by kernel_rfl)
def rt32 : BT (List Row) := (.node 6 [⟨0, 0⟩, ⟨0, 0⟩, ⟨0, 0⟩, ⟨0, 0⟩, ⟨8, 8⟩, ⟨0, 0⟩, ⟨0, 0⟩, ⟨64, 64⟩, ⟨160, 160⟩, ⟨256, 256⟩, ⟨0, 0⟩, ⟨0, 0⟩, ⟨3072, 3072⟩, ⟨4096, 4096⟩, ⟨9187, 3⟩, ⟨25571, 16896⟩, ⟨65535, 20⟩, ⟨131071, 73728⟩] (.node 4 [⟨0, 0⟩, ⟨0, 0⟩, ⟨3, 3⟩, ⟨4, 4⟩, ⟨8, 8⟩, ⟨8, 8⟩, ⟨8, 8⟩, ⟨104, 104⟩, ⟨136, 136⟩, ⟨8, 8⟩, ⟨8, 8⟩, ⟨1032, 1032⟩, ⟨2568, 2568⟩, ⟨4104, 4104⟩, ⟨8472, 8472⟩, ⟨16392, 16392⟩, ⟨32776, 32776⟩] .nil .nil) .nil)
theorem rw32 : RowAt Try.prog 32 rt32 := qXj Try.func32 (by kernel_rfl)
def rt42 : BT (List Row) := (.node 17 [⟨0, 0⟩, ⟨0, 0⟩, ⟨0, 0⟩, ⟨6, 6⟩, ⟨8, 8⟩, ⟨0, 0⟩, ⟨0, 0⟩, ⟨96, 96⟩, ⟨128, 128⟩, ⟨273, 273⟩, ⟨512, 512⟩, ⟨1024, 1024⟩] (.node 11 [⟨0, 0⟩, ⟨0, 0⟩, ⟨0, 0⟩, ⟨0, 0⟩, ⟨8, 8⟩, ⟨0, 0⟩, ⟨0, 0⟩, ⟨64, 64⟩, ⟨160, 160⟩, ⟨256, 256⟩, ⟨0, 0⟩, ⟨0, 0⟩, ⟨3072, 3072⟩, ⟨4096, 4096⟩, ⟨9187, 3⟩, ⟨25571, 16896⟩, ⟨65535, 20⟩, ⟨131071, 73728⟩] (.node 5 [⟨0, 0⟩, ⟨0, 0⟩, ⟨0, 0⟩, ⟨6, 6⟩, ⟨8, 8⟩, ⟨0, 0⟩, ⟨0, 0⟩, ⟨96, 96⟩, ⟨128, 128⟩, ⟨273, 273⟩, ⟨512, 512⟩] .nil .nil) .nil) (.node 35 [⟨0, 0⟩, ⟨0, 0⟩, ⟨0, 0⟩, ⟨0, 0⟩, ⟨12, 12⟩, ⟨18, 18⟩, ⟨32, 32⟩, ⟨0, 0⟩, ⟨0, 0⟩, ⟨384, 384⟩, ⟨512, 512⟩, ⟨1089, 1089⟩, ⟨2048, 2048⟩, ⟨4096, 4096⟩] (.node 23 [⟨0, 0⟩, ⟨0, 0⟩, ⟨0, 0⟩, ⟨0, 0⟩, ⟨8, 8⟩, ⟨0, 0⟩, ⟨0, 0⟩, ⟨64, 64⟩, ⟨160, 160⟩, ⟨256, 256⟩, ⟨0, 0⟩, ⟨0, 0⟩, ⟨3072, 3072⟩, ⟨4096, 4096⟩, ⟨9187, 3⟩, ⟨25571, 16896⟩, ⟨65535, 20⟩, ⟨131071, 73728⟩] .nil .nil) .nil))
theorem rw42 : RowAt Try.prog 42 rt42 := qXj Try.func42 (by kernel_rfl)
def rt43 : BT (List Row) := (.node 6 [⟨0, 0⟩, ⟨0, 0⟩, ⟨0, 0⟩, ⟨0, 0⟩, ⟨8, 8⟩, ⟨0, 0⟩, ⟨0, 0⟩, ⟨64, 64⟩, ⟨160, 160⟩, ⟨256, 256⟩, ⟨0, 0⟩, ⟨0, 0⟩, ⟨3072, 3072⟩, ⟨4096, 4096⟩, ⟨9187, 3⟩, ⟨25571, 16896⟩, ⟨65535, 20⟩, ⟨131071, 73728⟩] (.node 4 [⟨0, 0⟩, ⟨0, 0⟩, ⟨3, 3⟩, ⟨4, 4⟩, ⟨8, 8⟩, ⟨8, 8⟩, ⟨56, 56⟩, ⟨72, 72⟩, ⟨8, 8⟩, ⟨8, 8⟩, ⟨520, 520⟩, ⟨1288, 1288⟩, ⟨2056, 2056⟩, ⟨4232, 4232⟩, ⟨8200, 8200⟩] .nil .nil) .nil)
theorem rw43 : RowAt Try.prog 43 rt43 := qXj Try.func43 (by kernel_rfl)
def rt62 : BT (List Row) := (.node 3 [⟨0, 0⟩, ⟨0, 0⟩, ⟨0, 0⟩, ⟨6, 6⟩, ⟨0, 0⟩, ⟨0, 0⟩, ⟨0, 0⟩, ⟨96, 96⟩, ⟨0, 0⟩, ⟨0, 0⟩, ⟨0, 0⟩, ⟨1536, 1536⟩, ⟨2304, 2304⟩, ⟨4096, 4096⟩, ⟨0, 0⟩, ⟨0, 0⟩, ⟨0, 0⟩, ⟨98304, 98304⟩, ⟨147456, 147456⟩, ⟨262144, 262144⟩, ⟨540431, 9⟩, ⟨1589007, 1056768⟩, ⟨4194303, 144⟩, ⟨8388607, 4718592⟩] .nil .nil)
theorem rw62 : RowAt Try.prog 62 rt62 := qXj Try.func62 (by kernel_rfl)
def rtB : RowT := (.node 30 rt30 (.node 8 rt8 (.node 5 rt5 (.node 3 rt3 .nil .nil) (.node 7 rt7 .nil .nil)) (.node 23 rt23 (.node 13 rt13 .nil .nil) .nil)) (.node 42 rt42 (.node 32 rt32 (.node 31 rt31 .nil .nil) .nil) (.node 62 rt62 (.node 43 rt43 .nil .nil) .nil)))
theorem rtB_ok : RtsOk Try.prog (rtsB rtB) := rtsB_ok ⟨rw30, ⟨rw8, ⟨rw5, ⟨rw3, trivial, trivial⟩, ⟨rw7, trivial, trivial⟩⟩, ⟨rw23, ⟨rw13, trivial, trivial⟩, trivial⟩⟩, ⟨rw42, ⟨rw32, ⟨rw31, trivial, trivial⟩, trivial⟩, ⟨rw62, ⟨rw43, trivial, trivial⟩, trivial⟩⟩⟩

theorem own : ownKnob Try.prog.godebug = none := by kernel_rfl
theorem laidOut : laidOutB Try.prog = true := by kernel_rfl
theorem nogo : (Try.prog.funcs.all fun fn => fn.name != "runtime.NumGoroutine") = true := by kernel_rfl
theorem mixedOk : Try.prog.follows .mixedOrders = true := by kernel_rfl
/-- the types whose values are compared with no panic -/
noncomputable def seqB (t : TypeId) : Bool := !Try.prog.eqGuardType Try.prog.depth t && !Try.prog.stoodInHeld t
/-- the tables that the row lays, as rows that come in -/
def tabsL : List InD := []
/-- n: how deep a number may be without a name (0: none is named) -/
noncomputable def cxOf (n : Nat) : Cx :=
  { P := Try.prog, Γ := [], Φ := phiN, F := fN, lf := lfN, ins := [], tabs := tabsL, sh := n, und := undB tyB, inf := infB tyB, fn := fnB fuB, seq := seqB,
    undOk := undB_ok tyB_ok, infOk := fun _ _ h => BT.find_all tyB_ok h, fnOk := fun _ _ h => BT.find_all fuB_ok h,
    seqOk := fun t h => by unfold seqB at h; simpa using h }
theorem cxOf_ok (n : Nat) (m : Rc) : CxOk (m.cx (cxOf n)) :=
  ⟨mixedOk, fun f fn h => by
    have h1 := Array.all_eq_true.1 nogo
    obtain ⟨h2, h3⟩ := Array.getElem?_eq_some_iff.1 h
    have := h1 f h2
    have h4 : (Try.prog.funcs[f]'h2) = fn := h3
    rw [h4] at this
    simpa using this⟩
/-- the same, with what comes in -/
noncomputable def cxG (n : Nat) (Γ : List (Int × Int)) (ins : List InD) : Cx := { cxOf n with Γ := Γ, ins := ins ++ tabsL }
theorem tabsAll : (tabsL.all fun d => d.c.vb 0 && (d.n.vb 0 && d.cap.vb 0)) = true := by kernel_rfl
theorem tabsG (n : Nat) (Γ : List (Int × Int)) (ins : List InD) : TabsOk (cxG n Γ ins) := ⟨⟨ins, rfl⟩, fun d hd => by have := List.all_eq_true.1 tabsAll d hd; simp only [Bool.and_eq_true] at this; exact this⟩
theorem cxG_ok (n : Nat) (Γ : List (Int × Int)) (ins : List InD) : CxOk (cxG n Γ ins) :=
  ⟨mixedOk, fun f fn h => by
    have h1 := Array.all_eq_true.1 nogo
    obtain ⟨h2, h3⟩ := Array.getElem?_eq_some_iff.1 h
    have := h1 f h2
    have h4 : (Try.prog.funcs[f]'h2) = fn := h3
    rw [h4] at this
    simpa using this⟩
/-- a contract holds however much is named, and whatever else comes in -/
theorem rc_n {n k : Nat} {Γ : List (Int × Int)} {ins : List InD} {m : Rc} (h : RcOk (cxOf n) m) : RcOk (cxG k Γ ins) m :=
  fun ρ w hρ hc hp hr => h ρ w ⟨hρ.hi, hρ.hf, hρ.hv, hρ.hF, hρ.hP, hρ.hro⟩ hc hp hr
theorem rh_n {n k : Nat} {Γ : List (Int × Int)} {ins : List InD} {m : Rh} (h : RhOk (cxOf n) m) : RhOk (cxG k Γ ins) m :=
  fun ρ β w hρ hp hs => h ρ β w ⟨hρ.hi, hρ.hf, hρ.hv, hρ.hF, hρ.hP, hρ.hro⟩ hp hs
theorem mg {α : Type} {l : List α} {a : α} (i : Nat) (h : l[i]? = some a) : a ∈ l := List.mem_of_getElem? h
/-- the engine's runs -/
abbrev SMs := List (Int × Int) → List InD → Nat → SM
def SMsOk (sm : SMs) : Prop := ∀ Γ ins n, SmOk (cxG n Γ ins) (sm Γ ins n)
noncomputable def runC (sm : SMs) (Γ : List (Int × Int)) (ins : List InD) (n : Nat) : CF := execFn (cxG n Γ ins) (rtsB rtB) (sm Γ ins n) (fun _ _ => none) 40 30
theorem xok0 (cx : Cx) : XOk cx (fun _ _ => none) := fun _ _ _ _ _ _ _ h => by cases h
theorem runC_ok {sm : SMs} (h : SMsOk sm) (Γ : List (Int × Int)) (ins : List InD) (n : Nat) : qKi (cxG n Γ ins) (runC sm Γ ins n) := execFn_ok (cxG_ok n Γ ins) rtB_ok (h Γ ins n) (xok0 _) _
noncomputable def runG (sm : SMs) (lhs : LHS) (Γ : List (Int × Int)) (ins : List InD) (n : Nat) : CFT := execFnT (cxG n Γ ins) (rtsB rtB) (sm Γ ins n) (fun _ _ => none) lhs (runC sm Γ ins n) 40 30
theorem runG_ok {sm : SMs} (h : SMsOk sm) (lhs : LHS) (Γ : List (Int × Int)) (ins : List InD) (n : Nat) : qJd (cxG n Γ ins) (runG sm lhs Γ ins n) :=
  execFnT_ok (cxG_ok n Γ ins) rtB_ok (h Γ ins n) (xok0 _) (runC_ok h Γ ins n) _
noncomputable def runT (sm : SMs) (lhs : LHS) (m : Rc) (n : Nat) : CFT := runG sm lhs (bdsF m.ls) (qKz m.b m.c m.ls 0 0 0) n
theorem runT_ok {sm : SMs} (h : SMsOk sm) (lhs : LHS) (m : Rc) (n : Nat) : qJd (m.cx (cxOf n)) (runT sm lhs m n) := runG_ok h lhs _ _ n
noncomputable def runH (sm : SMs) (lhs : LHS) (m : Rk) (n : Nat) : CFT := runG sm lhs m.Γ m.ins n
theorem runH_ok {sm : SMs} (h : SMsOk sm) (lhs : LHS) (m : Rk) (n : Nat) : qJd (m.rh.cx (cxOf n)) (runH sm lhs m n) := runG_ok h lhs m.Γ m.ins n
/-! the parts of a contract's proof -/
noncomputable def fineR (n : Nat) (m : Rc) (t : TT (List E)) : Bool := TT.fine (m.cx (cxOf n)) 1000 [] t && (m.cx (cxOf n)).okB 1000 && SV.vbL 1000 m.args && TT.tidy (m.cx (cxOf n)) [] t
noncomputable def ranR (us : SMs) (lhs : LHS) (m : Rc) (n : Nat) (t : TT (List E)) : Bool := TT.beq (projL (m.pj (cxOf n)) (runT us lhs m n m.f m.args ⟨[], m.kn0⟩)) t
def statR (n : Nat) (m : Rc) (t : TT (List E)) (ρ : Env) : Prop := TT.hdP (m.cx (cxOf n)) (rlF ρ m.res) t ρ
theorem okR {us : SMs} {lhs : LHS} {m : Rc} {n : Nat} {t : TT (List E)} (hu : SMsOk us) (h1 : ranR us lhs m n t = true) (h2 : fineR n m t = true) (h3 : m.ok = true)
    (h : ∀ i v ro p, EnvOk (m.cx (cxOf n)) ⟨i, fN, v, ro, p⟩ → (∀ d ∈ qKz m.b m.c m.ls 0 0 0, d.n.ev ⟨i, fN, v, ro, p⟩ ≤ d.cap.ev ⟨i, fN, v, ro, p⟩) → (∀ e ∈ m.pre, e.evP ⟨i, fN, v, ro, p⟩ ≠ 0) → statR n m t ⟨i, fN, v, ro, p⟩) : RcOk (cxOf n) m :=
  rc_run (runT_ok hu lhs m n) h1 h2 h3 fun ρ hρ hcap hpre => by
    obtain ⟨i, f, v, ro, p⟩ := ρ
    have hf : f = fN := hρ.hF
    subst hf
    exact h i v ro p hρ hcap hpre
noncomputable def fineH (n : Nat) (m : Rk) (t : TT (List E)) : Bool := TT.fine (m.rh.cx (cxOf n)) 1000 [] t && (m.rh.cx (cxOf n)).okB 1000 && SV.vbL 1000 m.args && TT.tidy (m.rh.cx (cxOf n)) [] t
noncomputable def ranH (us : SMs) (lhs : LHS) (m : Rk) (n : Nat) (t : TT (List E)) : Bool := TT.beq (projL (m.pj (cxOf n)) (runH us lhs m n m.f m.args ⟨m.inb, m.kn0⟩)) t
def statH (n : Nat) (m : Rk) (t : TT (List E)) (ρ : Env) : Prop := TT.hdP (m.rh.cx (cxOf n)) (rsF ρ m.rs) t ρ
theorem okH {us : SMs} {lhs : LHS} {m : Rk} {n : Nat} {t : TT (List E)} (hu : SMsOk us) (h1 : ranH us lhs m n t = true) (h2 : fineH n m t = true) (h4 : blVb 1000 m.inb = true) (h3 : m.ok = true)
    (h : ∀ i v ro p, EnvOk (m.rh.cx (cxOf n)) ⟨i, fN, v, ro, p⟩ → (∀ e ∈ m.pre, e.evP ⟨i, fN, v, ro, p⟩ ≠ 0) → statH n m t ⟨i, fN, v, ro, p⟩) : RhOk (cxOf n) m.rh :=
  rk_run (runH_ok hu lhs m n) h1 h2 h4 h3 fun ρ hρ hpre => by
    obtain ⟨i, f, v, ro, p⟩ := ρ
    have hf : f = fN := hρ.hF
    subst hf
    exact h i v ro p hρ hpre
theorem den_row (ρ : Env) (β : Bt) (k z i j : Nat) : (SV.sl (.inp k) z (.c 0) (.v i) (some (.v j))).den ρ β = .slice (ρ.ro k).a (ρ.i i).toNat (ρ.i j).toNat := by
  simp only [SV.den, E.ev, map_addr_zero]
end Go.Proofs.Ytieocjnfjjgjeab
