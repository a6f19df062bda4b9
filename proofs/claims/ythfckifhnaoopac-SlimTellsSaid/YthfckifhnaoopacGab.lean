/-
  The program's tables of types, of functions and of all regions that draw their order, as trees; the engine at this program. Printed by program.
-/
import Derived.Test.YthfckifhnaoopacGu5
import Derived.Test.YthfckifhnaoopacRows
import Derived.WalkKit
import Derived.ProofKit
set_option linter.unusedVariables false
set_option linter.unusedSimpArgs false
namespace Go.Proofs.Ythfckifhnaoopac
open Go Go.Eng Go.RowKit
set_option maxRecDepth 100000
noncomputable def tyB : BT TypeInfo := (.node 30 Try.t30 (.node 22 Try.t22 (.node 5 Try.t5 (.node 4 Try.t4 (.node 3 Try.t3 .nil .nil) .nil) (.node 21 Try.t21 (.node 9 Try.t9 .nil .nil) .nil)) (.node 25 Try.t25 (.node 24 Try.t24 (.node 23 Try.t23 .nil .nil) .nil) (.node 27 Try.t27 (.node 26 Try.t26 .nil .nil) .nil))) (.node 71 Try.t71 (.node 42 Try.t42 (.node 41 Try.t41 (.node 36 Try.t36 .nil .nil) .nil) (.node 68 Try.t68 (.node 65 Try.t65 .nil .nil) .nil)) (.node 87 Try.t87 (.node 73 Try.t73 (.node 72 Try.t72 .nil .nil) .nil) (.node 97 Try.t97 .nil .nil))))
theorem tyB_ok : tyB.All fun i v => Try.prog.info? i = some v := ⟨Try.type30, ⟨Try.type22, ⟨Try.type5, ⟨Try.type4, ⟨Try.type3, trivial, trivial⟩, trivial⟩, ⟨Try.type21, ⟨Try.type9, trivial, trivial⟩, trivial⟩⟩, ⟨Try.type25, ⟨Try.type24, ⟨Try.type23, trivial, trivial⟩, trivial⟩, ⟨Try.type27, ⟨Try.type26, trivial, trivial⟩, trivial⟩⟩⟩, ⟨Try.type71, ⟨Try.type42, ⟨Try.type41, ⟨Try.type36, trivial, trivial⟩, trivial⟩, ⟨Try.type68, ⟨Try.type65, trivial, trivial⟩, trivial⟩⟩, ⟨Try.type87, ⟨Try.type73, ⟨Try.type72, trivial, trivial⟩, trivial⟩, ⟨Try.type97, trivial, trivial⟩⟩⟩⟩
noncomputable def fuB : BT Func := (.node 35 Try.f35 (.node 19 Try.f19 (.node 11 Try.f11 (.node 7 Try.f7 (.node 5 Try.f5 (.node 4 Try.f4 (.node 3 Try.f3 .nil .nil) .nil) (.node 6 Try.f6 .nil .nil)) (.node 9 Try.f9 (.node 8 Try.f8 .nil .nil) (.node 10 Try.f10 .nil .nil))) (.node 15 Try.f15 (.node 13 Try.f13 (.node 12 Try.f12 .nil .nil) (.node 14 Try.f14 .nil .nil)) (.node 17 Try.f17 (.node 16 Try.f16 .nil .nil) (.node 18 Try.f18 .nil .nil)))) (.node 27 Try.f27 (.node 23 Try.f23 (.node 21 Try.f21 (.node 20 Try.f20 .nil .nil) (.node 22 Try.f22 .nil .nil)) (.node 25 Try.f25 (.node 24 Try.f24 .nil .nil) (.node 26 Try.f26 .nil .nil))) (.node 31 Try.f31 (.node 29 Try.f29 (.node 28 Try.f28 .nil .nil) (.node 30 Try.f30 .nil .nil)) (.node 33 Try.f33 (.node 32 Try.f32 .nil .nil) (.node 34 Try.f34 .nil .nil))))) (.node 56 Try.f56 (.node 44 Try.f44 (.node 40 Try.f40 (.node 38 Try.f38 (.node 37 Try.f37 (.node 36 Try.f36 .nil .nil) .nil) (.node 39 Try.f39 .nil .nil)) (.node 42 Try.f42 (.node 41 Try.f41 .nil .nil) (.node 43 Try.f43 .nil .nil))) (.node 48 Try.f48 (.node 46 Try.f46 (.node 45 Try.f45 .nil .nil) (.node 47 Try.f47 .nil .nil)) (.node 54 Try.f54 (.node 53 Try.f53 .nil .nil) (.node 55 Try.f55 .nil .nil)))) (.node 64 Try.f64 (.node 60 Try.f60 (.node 58 Try.f58 (.node 57 Try.f57 .nil .nil) (.node 59 Try.f59 .nil .nil)) (.node 62 Try.f62 (.node 61 Try.f61 .nil .nil) (.node 63 Try.f63 .nil .nil))) (.node 79 Try.f79 (.node 69 Try.f69 (.node 68 Try.f68 .nil .nil) (.node 70 Try.f70 .nil .nil)) (.node 81 Try.f81 (.node 80 Try.f80 .nil .nil) (.node 82 Try.f82 .nil .nil))))))
theorem fuB_ok : fuB.All fun i v => Try.prog.funcs[i]? = some v := ⟨Try.func35, ⟨Try.func19, ⟨Try.func11, ⟨Try.func7, ⟨Try.func5, ⟨Try.func4, ⟨Try.func3, trivial, trivial⟩, trivial⟩, ⟨Try.func6, trivial, trivial⟩⟩, ⟨Try.func9, ⟨Try.func8, trivial, trivial⟩, ⟨Try.func10, trivial, trivial⟩⟩⟩, ⟨Try.func15, ⟨Try.func13, ⟨Try.func12, trivial, trivial⟩, ⟨Try.func14, trivial, trivial⟩⟩, ⟨Try.func17, ⟨Try.func16, trivial, trivial⟩, ⟨Try.func18, trivial, trivial⟩⟩⟩⟩, ⟨Try.func27, ⟨Try.func23, ⟨Try.func21, ⟨Try.func20, trivial, trivial⟩, ⟨Try.func22, trivial, trivial⟩⟩, ⟨Try.func25, ⟨Try.func24, trivial, trivial⟩, ⟨Try.func26, trivial, trivial⟩⟩⟩, ⟨Try.func31, ⟨Try.func29, ⟨Try.func28, trivial, trivial⟩, ⟨Try.func30, trivial, trivial⟩⟩, ⟨Try.func33, ⟨Try.func32, trivial, trivial⟩, ⟨Try.func34, trivial, trivial⟩⟩⟩⟩⟩, ⟨Try.func56, ⟨Try.func44, ⟨Try.func40, ⟨Try.func38, ⟨Try.func37, ⟨Try.func36, trivial, trivial⟩, trivial⟩, ⟨Try.func39, trivial, trivial⟩⟩, ⟨Try.func42, ⟨Try.func41, trivial, trivial⟩, ⟨Try.func43, trivial, trivial⟩⟩⟩, ⟨Try.func48, ⟨Try.func46, ⟨Try.func45, trivial, trivial⟩, ⟨Try.func47, trivial, trivial⟩⟩, ⟨Try.func54, ⟨Try.func53, trivial, trivial⟩, ⟨Try.func55, trivial, trivial⟩⟩⟩⟩, ⟨Try.func64, ⟨Try.func60, ⟨Try.func58, ⟨Try.func57, trivial, trivial⟩, ⟨Try.func59, trivial, trivial⟩⟩, ⟨Try.func62, ⟨Try.func61, trivial, trivial⟩, ⟨Try.func63, trivial, trivial⟩⟩⟩, ⟨Try.func79, ⟨Try.func69, ⟨Try.func68, trivial, trivial⟩, ⟨Try.func70, trivial, trivial⟩⟩, ⟨Try.func81, ⟨Try.func80, trivial, trivial⟩, ⟨Try.func82, trivial, trivial⟩⟩⟩⟩⟩⟩
def rt3 : BT (List Row) := (.node 5 [⟨0, 0⟩, ⟨1, 1⟩, ⟨2, 2⟩, ⟨0, 0⟩, ⟨8, 8⟩, ⟨20, 16⟩, ⟨36, 36⟩, ⟨64, 64⟩, ⟨128, 128⟩, ⟨128, 128⟩, ⟨896, 896⟩, ⟨1152, 1152⟩, ⟨3072, 2048⟩, ⟨4096, 4096⟩, ⟨4096, 4096⟩, ⟨28672, 28672⟩, ⟨36864, 36864⟩, ⟨69632, 65536⟩, ⟨131072, 131072⟩, ⟨393216, 393216⟩, ⟨1048575, 524288⟩] .nil .nil)
theorem rw3 : RowAt Try.prog 3 rt3 := qJv Try.func3 (by kernel_rfl)
def rt6 : BT (List Row) := (.node 26 [⟨0, 0⟩, ⟨1, 1⟩, ⟨2, 2⟩, ⟨0, 0⟩, ⟨8, 8⟩, ⟨20, 16⟩, ⟨7, 0⟩, ⟨103, 68⟩, ⟨255, 0⟩, ⟨511, 288⟩] (.node 25 [⟨0, 0⟩, ⟨1, 1⟩, ⟨2, 2⟩, ⟨0, 0⟩, ⟨8, 8⟩, ⟨20, 16⟩, ⟨7, 0⟩, ⟨103, 68⟩, ⟨255, 0⟩, ⟨511, 288⟩] .nil .nil) .nil)
theorem rw6 : RowAt Try.prog 6 rt6 := qJv Try.func6 (by kernel_rfl)
def rt7 : BT (List Row) := (.node 16 [⟨0, 0⟩, ⟨1, 1⟩, ⟨0, 0⟩, ⟨0, 0⟩, ⟨12, 12⟩, ⟨16, 16⟩, ⟨34, 34⟩, ⟨64, 64⟩, ⟨255, 128⟩] .nil .nil)
theorem rw7 : RowAt Try.prog 7 rt7 := qJv Try.func7 (by kernel_rfl)
def rt8 : BT (List Row) := (.node 6 [⟨0, 0⟩, ⟨0, 0⟩, ⟨3, 3⟩, ⟨4, 4⟩, ⟨0, 0⟩, ⟨0, 0⟩, ⟨48, 48⟩, ⟨64, 64⟩, ⟨136, 136⟩] .nil .nil)
theorem rw8 : RowAt Try.prog 8 rt8 := qJv Try.func8 (by kernel_rfl)
def rt12 : BT (List Row) := (.node 12 [⟨0, 0⟩, ⟨1, 1⟩, ⟨2, 2⟩, ⟨0, 0⟩, ⟨8, 8⟩, ⟨16, 16⟩, ⟨36, 36⟩, ⟨66, 64⟩] .nil .nil)
theorem rw12 : RowAt Try.prog 12 rt12 := qJv Try.func12 (by kernel_rfl)
def rt15 : BT (List Row) := (.node 8 [⟨0, 0⟩, ⟨0, 0⟩, ⟨2, 2⟩, ⟨4, 4⟩, ⟨8, 8⟩, ⟨16, 16⟩, ⟨32, 32⟩, ⟨0, 0⟩, ⟨128, 128⟩, ⟨256, 256⟩, ⟨512, 512⟩, ⟨1088, 1088⟩, ⟨0, 0⟩, ⟨4096, 4096⟩, ⟨10240, 10240⟩, ⟨16385, 16385⟩, ⟨65535, 32769⟩] .nil .nil)
theorem rw15 : RowAt Try.prog 15 rt15 := qJv Try.func15 (by kernel_rfl)
def rt19 : BT (List Row) := (.node 11 [⟨0, 0⟩, ⟨1, 1⟩, ⟨0, 0⟩, ⟨6, 6⟩, ⟨8, 8⟩, ⟨0, 0⟩, ⟨32, 32⟩, ⟨0, 0⟩, ⟨192, 192⟩, ⟨256, 256⟩, ⟨528, 528⟩] .nil .nil)
theorem rw19 : RowAt Try.prog 19 rt19 := qJv Try.func19 (by kernel_rfl)
def rt25 : BT (List Row) := (.node 6 [⟨0, 0⟩, ⟨0, 0⟩, ⟨3, 3⟩, ⟨4, 4⟩, ⟨0, 0⟩, ⟨0, 0⟩, ⟨48, 48⟩, ⟨64, 64⟩, ⟨136, 136⟩] .nil .nil)
theorem rw25 : RowAt Try.prog 25 rt25 := qJv Try.func25 (by kernel_rfl)
def rt26 : BT (List Row) := (.node 6 [⟨0, 0⟩, ⟨0, 0⟩, ⟨3, 3⟩, ⟨4, 4⟩, ⟨0, 0⟩, ⟨0, 0⟩, ⟨48, 48⟩, ⟨64, 64⟩, ⟨136, 136⟩] .nil .nil)
theorem rw26 : RowAt Try.prog 26 rt26 := qJv Try.func26 (by kernel_rfl)
def rt27 : BT (List Row) := (.node 6 [⟨0, 0⟩, ⟨0, 0⟩, ⟨3, 3⟩, ⟨4, 4⟩, ⟨0, 0⟩, ⟨0, 0⟩, ⟨48, 48⟩, ⟨64, 64⟩, ⟨136, 136⟩] .nil .nil)
theorem rw27 : RowAt Try.prog 27 rt27 := qJv Try.func27 (by kernel_rfl)
def rt32 : BT (List Row) := (.node 11 [⟨0, 0⟩, ⟨0, 0⟩, ⟨3, 3⟩, ⟨4, 4⟩, ⟨0, 0⟩, ⟨0, 0⟩, ⟨32, 32⟩, ⟨80, 80⟩, ⟨128, 128⟩, ⟨264, 264⟩] (.node 6 [⟨0, 0⟩, ⟨0, 0⟩, ⟨3, 3⟩, ⟨4, 4⟩, ⟨0, 0⟩, ⟨0, 0⟩, ⟨32, 32⟩, ⟨80, 80⟩, ⟨128, 128⟩, ⟨264, 264⟩] .nil .nil) .nil)
theorem rw32 : RowAt Try.prog 32 rt32 := qJv Try.func32 (by kernel_rfl)
def rt44 : BT (List Row) := (.node 8 [⟨0, 0⟩, ⟨0, 0⟩, ⟨3, 3⟩, ⟨0, 0⟩, ⟨0, 0⟩, ⟨24, 24⟩, ⟨32, 32⟩, ⟨68, 68⟩, ⟨255, 128⟩] .nil .nil)
theorem rw44 : RowAt Try.prog 44 rt44 := qJv Try.func44 (by kernel_rfl)
def rt63 : BT (List Row) := (.node 17 [⟨0, 0⟩, ⟨1, 1⟩, ⟨2, 2⟩, ⟨4, 4⟩, ⟨4, 4⟩, ⟨20, 20⟩, ⟨44, 44⟩, ⟨68, 68⟩, ⟨4, 4⟩, ⟨4, 4⟩, ⟨772, 772⟩, ⟨1028, 1028⟩, ⟨2180, 2180⟩, ⟨4100, 4100⟩, ⟨8196, 8196⟩] .nil .nil)
theorem rw63 : RowAt Try.prog 63 rt63 := qJv Try.func63 (by kernel_rfl)
def rt70 : BT (List Row) := (.node 6 [⟨0, 0⟩, ⟨0, 0⟩, ⟨0, 0⟩, ⟨0, 0⟩, ⟨8, 8⟩, ⟨0, 0⟩, ⟨0, 0⟩, ⟨64, 64⟩, ⟨160, 160⟩, ⟨256, 256⟩, ⟨0, 0⟩, ⟨0, 0⟩, ⟨3072, 3072⟩, ⟨4096, 4096⟩, ⟨9187, 3⟩, ⟨25571, 16896⟩, ⟨65535, 20⟩, ⟨131071, 73728⟩] (.node 4 [⟨0, 0⟩, ⟨0, 0⟩, ⟨3, 3⟩, ⟨4, 4⟩, ⟨8, 8⟩, ⟨8, 8⟩, ⟨56, 56⟩, ⟨72, 72⟩, ⟨8, 8⟩, ⟨8, 8⟩, ⟨520, 520⟩, ⟨1288, 1288⟩, ⟨2056, 2056⟩, ⟨4232, 4232⟩, ⟨8200, 8200⟩] .nil .nil) .nil)
theorem rw70 : RowAt Try.prog 70 rt70 := qJv Try.func70 (by kernel_rfl)
def rtB : RowT := (.node 25 rt25 (.node 8 rt8 (.node 6 rt6 (.node 3 rt3 .nil .nil) (.node 7 rt7 .nil .nil)) (.node 15 rt15 (.node 12 rt12 .nil .nil) (.node 19 rt19 .nil .nil))) (.node 44 rt44 (.node 27 rt27 (.node 26 rt26 .nil .nil) (.node 32 rt32 .nil .nil)) (.node 70 rt70 (.node 63 rt63 .nil .nil) .nil)))
theorem rtB_ok : RtsOk Try.prog (rtsB rtB) := rtsB_ok ⟨rw25, ⟨rw8, ⟨rw6, ⟨rw3, trivial, trivial⟩, ⟨rw7, trivial, trivial⟩⟩, ⟨rw15, ⟨rw12, trivial, trivial⟩, ⟨rw19, trivial, trivial⟩⟩⟩, ⟨rw44, ⟨rw27, ⟨rw26, trivial, trivial⟩, ⟨rw32, trivial, trivial⟩⟩, ⟨rw70, ⟨rw63, trivial, trivial⟩, trivial⟩⟩⟩

theorem own : ownKnob Try.prog.godebug = none := by kernel_rfl
theorem laidOut : laidOutB Try.prog = true := by kernel_rfl
theorem nogo : (Try.prog.funcs.all fun fn => fn.name != "runtime.NumGoroutine") = true := by kernel_rfl
theorem mixedOk : Try.prog.follows .mixedOrders = true := by kernel_rfl
/-- the types whose values are compared with no panic -/
noncomputable def seqB (t : TypeId) : Bool := !Try.prog.eqGuardType Try.prog.depth t && !Try.prog.stoodInHeld t
/-- the tables that the row lays, as rows that come in -/
def tabsL : List InD := []
/-- n: how deep a number may be without a name (0: none is named) -/
noncomputable def cxOf (n : Nat) : Cx :=
  { P := Try.prog, Γ := [], Φ := phiN, F := fN, lf := lfN, ins := [], tabs := tabsL, sh := n, und := undB tyB, inf := infB tyB, fn := fnB fuB, seq := seqB,
    undOk := undB_ok tyB_ok, infOk := fun _ _ h => BT.find_all tyB_ok h, fnOk := fun _ _ h => BT.find_all fuB_ok h,
    seqOk := fun t h => by unfold seqB at h; simpa using h }
theorem cxOf_ok (n : Nat) (m : Rc) : CxOk (m.cx (cxOf n)) :=
  ⟨mixedOk, fun f fn h => by
    have h1 := Array.all_eq_true.1 nogo
    obtain ⟨h2, h3⟩ := Array.getElem?_eq_some_iff.1 h
    have := h1 f h2
    have h4 : (Try.prog.funcs[f]'h2) = fn := h3
    rw [h4] at this
    simpa using this⟩
/-- the same, with what comes in -/
noncomputable def cxG (n : Nat) (Γ : List (Int × Int)) (ins : List InD) : Cx := { cxOf n with Γ := Γ, ins := ins ++ tabsL }
theorem tabsAll : (tabsL.all fun d => d.c.vb 0 && (d.n.vb 0 && d.cap.vb 0)) = true := by kernel_rfl
theorem tabsG (n : Nat) (Γ : List (Int × Int)) (ins : List InD) : TabsOk (cxG n Γ ins) := ⟨⟨ins, rfl⟩, fun d hd => by have := List.all_eq_true.1 tabsAll d hd; simp only [Bool.and_eq_true] at this; exact this⟩
theorem cxG_ok (n : Nat) (Γ : List (Int × Int)) (ins : List InD) : CxOk (cxG n Γ ins) :=
  ⟨mixedOk, fun f fn h => by
    have h1 := Array.all_eq_true.1 nogo
    obtain ⟨h2, h3⟩ := Array.getElem?_eq_some_iff.1 h
    have := h1 f h2
    have h4 : (Try.prog.funcs[f]'h2) = fn := h3
    rw [h4] at this
    simpa using this⟩
/-- a contract holds however much is named, and whatever else comes in -/
theorem rc_n {n k : Nat} {Γ : List (Int × Int)} {ins : List InD} {m : Rc} (h : RcOk (cxOf n) m) : RcOk (cxG k Γ ins) m :=
  fun ρ w hρ hc hp hr => h ρ w ⟨hρ.hi, hρ.hf, hρ.hv, hρ.hF, hρ.hP, hρ.hro⟩ hc hp hr
theorem rh_n {n k : Nat} {Γ : List (Int × Int)} {ins : List InD} {m : Rh} (h : RhOk (cxOf n) m) : RhOk (cxG k Γ ins) m :=
  fun ρ β w hρ hp hs => h ρ β w ⟨hρ.hi, hρ.hf, hρ.hv, hρ.hF, hρ.hP, hρ.hro⟩ hp hs
theorem mg {α : Type} {l : List α} {a : α} (i : Nat) (h : l[i]? = some a) : a ∈ l := List.mem_of_getElem? h
/-- the engine's runs -/
abbrev SMs := List (Int × Int) → List InD → Nat → SM
def SMsOk (sm : SMs) : Prop := ∀ Γ ins n, SmOk (cxG n Γ ins) (sm Γ ins n)
noncomputable def runC (sm : SMs) (Γ : List (Int × Int)) (ins : List InD) (n : Nat) : CF := execFn (cxG n Γ ins) (rtsB rtB) (sm Γ ins n) (fun _ _ => none) 40 30
theorem xok0 (cx : Cx) : XOk cx (fun _ _ => none) := fun _ _ _ _ _ _ _ h => by cases h
theorem runC_ok {sm : SMs} (h : SMsOk sm) (Γ : List (Int × Int)) (ins : List InD) (n : Nat) : qKd (cxG n Γ ins) (runC sm Γ ins n) := execFn_ok (cxG_ok n Γ ins) rtB_ok (h Γ ins n) (xok0 _) _
noncomputable def runG (sm : SMs) (lhs : LHS) (Γ : List (Int × Int)) (ins : List InD) (n : Nat) : CFT := execFnT (cxG n Γ ins) (rtsB rtB) (sm Γ ins n) (fun _ _ => none) lhs (runC sm Γ ins n) 40 30
theorem runG_ok {sm : SMs} (h : SMsOk sm) (lhs : LHS) (Γ : List (Int × Int)) (ins : List InD) (n : Nat) : qJd (cxG n Γ ins) (runG sm lhs Γ ins n) :=
  execFnT_ok (cxG_ok n Γ ins) rtB_ok (h Γ ins n) (xok0 _) (runC_ok h Γ ins n) _
noncomputable def runT (sm : SMs) (lhs : LHS) (m : Rc) (n : Nat) : CFT := runG sm lhs (bdsF m.ls) (qXe m.b m.c m.ls 0 0 0) n
theorem runT_ok {sm : SMs} (h : SMsOk sm) (lhs : LHS) (m : Rc) (n : Nat) : qJd (m.cx (cxOf n)) (runT sm lhs m n) := runG_ok h lhs _ _ n
noncomputable def runH (sm : SMs) (lhs : LHS) (m : Rk) (n : Nat) : CFT := runG sm lhs m.Γ m.ins n
theorem runH_ok {sm : SMs} (h : SMsOk sm) (lhs : LHS) (m : Rk) (n : Nat) : qJd (m.rh.cx (cxOf n)) (runH sm lhs m n) := runG_ok h lhs m.Γ m.ins n
/-! the parts of a contract's proof -/
noncomputable def fineR (n : Nat) (m : Rc) (t : TT (List E)) : Bool := TT.fine (m.cx (cxOf n)) 1000 [] t && (m.cx (cxOf n)).okB 1000 && SV.vbL 1000 m.args && TT.tidy (m.cx (cxOf n)) [] t
noncomputable def ranR (us : SMs) (lhs : LHS) (m : Rc) (n : Nat) (t : TT (List E)) : Bool := TT.beq (projL (m.pj (cxOf n)) (runT us lhs m n m.f m.args ⟨[], m.kn0⟩)) t
def statR (n : Nat) (m : Rc) (t : TT (List E)) (ρ : Env) : Prop := TT.hdP (m.cx (cxOf n)) (rlF ρ m.res) t ρ
theorem okR {us : SMs} {lhs : LHS} {m : Rc} {n : Nat} {t : TT (List E)} (hu : SMsOk us) (h1 : ranR us lhs m n t = true) (h2 : fineR n m t = true) (h3 : m.ok = true)
    (h : ∀ i v ro p, EnvOk (m.cx (cxOf n)) ⟨i, fN, v, ro, p⟩ → (∀ d ∈ qXe m.b m.c m.ls 0 0 0, d.n.ev ⟨i, fN, v, ro, p⟩ ≤ d.cap.ev ⟨i, fN, v, ro, p⟩) → (∀ e ∈ m.pre, e.evP ⟨i, fN, v, ro, p⟩ ≠ 0) → statR n m t ⟨i, fN, v, ro, p⟩) : RcOk (cxOf n) m :=
  rc_run (runT_ok hu lhs m n) h1 h2 h3 fun ρ hρ hcap hpre => by
    obtain ⟨i, f, v, ro, p⟩ := ρ
    have hf : f = fN := hρ.hF
    subst hf
    exact h i v ro p hρ hcap hpre
noncomputable def fineH (n : Nat) (m : Rk) (t : TT (List E)) : Bool := TT.fine (m.rh.cx (cxOf n)) 1000 [] t && (m.rh.cx (cxOf n)).okB 1000 && SV.vbL 1000 m.args && TT.tidy (m.rh.cx (cxOf n)) [] t
noncomputable def ranH (us : SMs) (lhs : LHS) (m : Rk) (n : Nat) (t : TT (List E)) : Bool := TT.beq (projL (m.pj (cxOf n)) (runH us lhs m n m.f m.args ⟨m.inb, m.kn0⟩)) t
def statH (n : Nat) (m : Rk) (t : TT (List E)) (ρ : Env) : Prop := TT.hdP (m.rh.cx (cxOf n)) (rsF ρ m.rs) t ρ
theorem okH {us : SMs} {lhs : LHS} {m : Rk} {n : Nat} {t : TT (List E)} (hu : SMsOk us) (h1 : ranH us lhs m n t = true) (h2 : fineH n m t = true) (h4 : blVb 1000 m.inb = true) (h3 : m.ok = true)
    (h : ∀ i v ro p, EnvOk (m.rh.cx (cxOf n)) ⟨i, fN, v, ro, p⟩ → (∀ e ∈ m.pre, e.evP ⟨i, fN, v, ro, p⟩ ≠ 0) → statH n m t ⟨i, fN, v, ro, p⟩) : RhOk (cxOf n) m.rh :=
  rk_run (runH_ok hu lhs m n) h1 h2 h4 h3 fun ρ hρ hpre => by
    obtain ⟨i, f, v, ro, p⟩ := ρ
    have hf : f = fN := hρ.hF
    subst hf
    exact h i v ro p hρ hpre
theorem den_row (ρ : Env) (β : Bt) (k z i j : Nat) : (SV.sl (.inp k) z (.c 0) (.v i) (some (.v j))).den ρ β = .slice (ρ.ro k).a (ρ.i i).toNat (ρ.i j).toNat := by
  simp only [SV.den, E.ev, qXt]
end Go.Proofs.Ythfckifhnaoopac
