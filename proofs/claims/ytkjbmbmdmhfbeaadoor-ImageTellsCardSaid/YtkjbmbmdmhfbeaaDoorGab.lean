/-
  The program's tables of types, of functions and of all regions that draw their order, as trees; the engine at this program. Printed by program.
-/
import Derived.Test.YtkjbmbmdmhfbeaaDoorGu5
import Derived.Test.YtkjbmbmdmhfbeaaDoorRows
import Derived.WalkKit
import Derived.ProofKit
set_option linter.unusedVariables false
set_option linter.unusedSimpArgs false
namespace Go.Proofs.YtkjbmbmdmhfbeaaDoor
open Go Go.Eng Go.RowKit
set_option maxRecDepth 100000
noncomputable def tyB : BT TypeInfo := (.node 28 Tryd.t28 (.node 21 Tryd.t21 (.node 5 Tryd.t5 (.node 3 Tryd.t3 (.node 2 Tryd.t2 .nil .nil) (.node 4 Tryd.t4 .nil .nil)) (.node 20 Tryd.t20 (.node 9 Tryd.t9 .nil .nil) .nil)) (.node 25 Tryd.t25 (.node 23 Tryd.t23 (.node 22 Tryd.t22 .nil .nil) (.node 24 Tryd.t24 .nil .nil)) (.node 27 Tryd.t27 (.node 26 Tryd.t26 .nil .nil) .nil))) (.node 53 Tryd.t53 (.node 43 Tryd.t43 (.node 40 Tryd.t40 (.node 31 Tryd.t31 .nil .nil) (.node 41 Tryd.t41 .nil .nil)) (.node 48 Tryd.t48 (.node 47 Tryd.t47 .nil .nil) .nil)) (.node 74 Tryd.t74 (.node 57 Tryd.t57 (.node 56 Tryd.t56 .nil .nil) .nil) (.node 100 Tryd.t100 (.node 82 Tryd.t82 .nil .nil) .nil))))
theorem tyB_ok : tyB.All fun i v => Tryd.prog.info? i = some v := ⟨Tryd.type28, ⟨Tryd.type21, ⟨Tryd.type5, ⟨Tryd.type3, ⟨Tryd.type2, trivial, trivial⟩, ⟨Tryd.type4, trivial, trivial⟩⟩, ⟨Tryd.type20, ⟨Tryd.type9, trivial, trivial⟩, trivial⟩⟩, ⟨Tryd.type25, ⟨Tryd.type23, ⟨Tryd.type22, trivial, trivial⟩, ⟨Tryd.type24, trivial, trivial⟩⟩, ⟨Tryd.type27, ⟨Tryd.type26, trivial, trivial⟩, trivial⟩⟩⟩, ⟨Tryd.type53, ⟨Tryd.type43, ⟨Tryd.type40, ⟨Tryd.type31, trivial, trivial⟩, ⟨Tryd.type41, trivial, trivial⟩⟩, ⟨Tryd.type48, ⟨Tryd.type47, trivial, trivial⟩, trivial⟩⟩, ⟨Tryd.type74, ⟨Tryd.type57, ⟨Tryd.type56, trivial, trivial⟩, trivial⟩, ⟨Tryd.type100, ⟨Tryd.type82, trivial, trivial⟩, trivial⟩⟩⟩⟩
noncomputable def fuB : BT Func := (.node 28 Tryd.f28 (.node 15 Tryd.f15 (.node 9 Tryd.f9 (.node 6 Tryd.f6 (.node 4 Tryd.f4 (.node 3 Tryd.f3 .nil .nil) (.node 5 Tryd.f5 .nil .nil)) (.node 8 Tryd.f8 (.node 7 Tryd.f7 .nil .nil) .nil)) (.node 12 Tryd.f12 (.node 11 Tryd.f11 (.node 10 Tryd.f10 .nil .nil) .nil) (.node 14 Tryd.f14 (.node 13 Tryd.f13 .nil .nil) .nil))) (.node 22 Tryd.f22 (.node 19 Tryd.f19 (.node 17 Tryd.f17 (.node 16 Tryd.f16 .nil .nil) (.node 18 Tryd.f18 .nil .nil)) (.node 21 Tryd.f21 (.node 20 Tryd.f20 .nil .nil) .nil)) (.node 25 Tryd.f25 (.node 24 Tryd.f24 (.node 23 Tryd.f23 .nil .nil) .nil) (.node 27 Tryd.f27 (.node 26 Tryd.f26 .nil .nil) .nil)))) (.node 41 Tryd.f41 (.node 35 Tryd.f35 (.node 32 Tryd.f32 (.node 30 Tryd.f30 (.node 29 Tryd.f29 .nil .nil) (.node 31 Tryd.f31 .nil .nil)) (.node 34 Tryd.f34 (.node 33 Tryd.f33 .nil .nil) .nil)) (.node 38 Tryd.f38 (.node 37 Tryd.f37 (.node 36 Tryd.f36 .nil .nil) .nil) (.node 40 Tryd.f40 (.node 39 Tryd.f39 .nil .nil) .nil))) (.node 48 Tryd.f48 (.node 45 Tryd.f45 (.node 43 Tryd.f43 (.node 42 Tryd.f42 .nil .nil) (.node 44 Tryd.f44 .nil .nil)) (.node 47 Tryd.f47 (.node 46 Tryd.f46 .nil .nil) .nil)) (.node 51 Tryd.f51 (.node 50 Tryd.f50 (.node 49 Tryd.f49 .nil .nil) .nil) (.node 55 Tryd.f55 (.node 54 Tryd.f54 .nil .nil) .nil)))))
theorem fuB_ok : fuB.All fun i v => Tryd.prog.funcs[i]? = some v := ⟨Tryd.func28, ⟨Tryd.func15, ⟨Tryd.func9, ⟨Tryd.func6, ⟨Tryd.func4, ⟨Tryd.func3, trivial, trivial⟩, ⟨Tryd.func5, trivial, trivial⟩⟩, ⟨Tryd.func8, ⟨Tryd.func7, trivial, trivial⟩, trivial⟩⟩, ⟨Tryd.func12, ⟨Tryd.func11, ⟨Tryd.func10, trivial, trivial⟩, trivial⟩, ⟨Tryd.func14, ⟨Tryd.func13, trivial, trivial⟩, trivial⟩⟩⟩, ⟨Tryd.func22, ⟨Tryd.func19, ⟨Tryd.func17, ⟨Tryd.func16, trivial, trivial⟩, ⟨Tryd.func18, trivial, trivial⟩⟩, ⟨Tryd.func21, ⟨Tryd.func20, trivial, trivial⟩, trivial⟩⟩, ⟨Tryd.func25, ⟨Tryd.func24, ⟨Tryd.func23, trivial, trivial⟩, trivial⟩, ⟨Tryd.func27, ⟨Tryd.func26, trivial, trivial⟩, trivial⟩⟩⟩⟩, ⟨Tryd.func41, ⟨Tryd.func35, ⟨Tryd.func32, ⟨Tryd.func30, ⟨Tryd.func29, trivial, trivial⟩, ⟨Tryd.func31, trivial, trivial⟩⟩, ⟨Tryd.func34, ⟨Tryd.func33, trivial, trivial⟩, trivial⟩⟩, ⟨Tryd.func38, ⟨Tryd.func37, ⟨Tryd.func36, trivial, trivial⟩, trivial⟩, ⟨Tryd.func40, ⟨Tryd.func39, trivial, trivial⟩, trivial⟩⟩⟩, ⟨Tryd.func48, ⟨Tryd.func45, ⟨Tryd.func43, ⟨Tryd.func42, trivial, trivial⟩, ⟨Tryd.func44, trivial, trivial⟩⟩, ⟨Tryd.func47, ⟨Tryd.func46, trivial, trivial⟩, trivial⟩⟩, ⟨Tryd.func51, ⟨Tryd.func50, ⟨Tryd.func49, trivial, trivial⟩, trivial⟩, ⟨Tryd.func55, ⟨Tryd.func54, trivial, trivial⟩, trivial⟩⟩⟩⟩⟩
def rt3 : BT (List Row) := (.node 7 [⟨0, 0⟩, ⟨1, 1⟩, ⟨0, 0⟩, ⟨4, 4⟩, ⟨10, 10⟩, ⟨16, 16⟩, ⟨32, 32⟩, ⟨32, 32⟩, ⟨224, 224⟩, ⟨288, 288⟩, ⟨544, 512⟩, ⟨1024, 1024⟩, ⟨1024, 1024⟩, ⟨7168, 7168⟩, ⟨9216, 9216⟩, ⟨24576, 16384⟩, ⟨32768, 32768⟩, ⟨32768, 32768⟩, ⟨229376, 229376⟩, ⟨294912, 294912⟩, ⟨557056, 524288⟩, ⟨1048576, 1048576⟩, ⟨3145728, 3145728⟩, ⟨1048576, 1048576⟩, ⟨13631488, 9437184⟩, ⟨22020096, 22020096⟩, ⟨34603008, 34603008⟩, ⟨83886080, 67108864⟩, ⟨134217728, 134217728⟩, ⟨402653184, 402653184⟩, ⟨1073741823, 536870912⟩] .nil .nil)
theorem rw3 : RowAt Tryd.prog 3 rt3 := qJx Tryd.func3 (by kernel_rfl)
def rt9 : BT (List Row) := (.node 21 [⟨0, 0⟩, ⟨1, 1⟩, ⟨0, 0⟩, ⟨4, 4⟩, ⟨8, 8⟩, ⟨26, 18⟩, ⟨63, 0⟩, ⟨127, 96⟩] (.node 14 [⟨0, 0⟩, ⟨1, 1⟩, ⟨0, 0⟩, ⟨4, 4⟩, ⟨8, 8⟩, ⟨16, 16⟩, ⟨50, 34⟩, ⟨127, 0⟩, ⟨255, 192⟩] (.node 10 [⟨0, 0⟩, ⟨1, 1⟩, ⟨0, 0⟩, ⟨4, 4⟩, ⟨8, 8⟩, ⟨16, 16⟩, ⟨42, 34⟩, ⟨127, 0⟩, ⟨255, 192⟩] .nil .nil) .nil) (.node 30 [⟨0, 0⟩, ⟨0, 0⟩, ⟨2, 2⟩, ⟨4, 4⟩, ⟨8, 8⟩, ⟨1, 1⟩, ⟨63, 16⟩] (.node 25 [⟨0, 0⟩, ⟨1, 1⟩, ⟨0, 0⟩, ⟨4, 4⟩, ⟨8, 8⟩, ⟨26, 18⟩, ⟨63, 0⟩, ⟨127, 96⟩] .nil .nil) .nil))
theorem rw9 : RowAt Tryd.prog 9 rt9 := qJx Tryd.func9 (by kernel_rfl)
def rt11 : BT (List Row) := (.node 12 [⟨0, 0⟩, ⟨1, 1⟩, ⟨2, 2⟩, ⟨0, 0⟩, ⟨8, 8⟩, ⟨16, 16⟩, ⟨36, 36⟩, ⟨66, 64⟩] .nil .nil)
theorem rw11 : RowAt Tryd.prog 11 rt11 := qJx Tryd.func11 (by kernel_rfl)
def rt12 : BT (List Row) := (.node 11 [⟨0, 0⟩, ⟨1, 1⟩, ⟨0, 0⟩, ⟨6, 6⟩, ⟨8, 8⟩, ⟨0, 0⟩, ⟨32, 32⟩, ⟨0, 0⟩, ⟨192, 192⟩, ⟨256, 256⟩, ⟨528, 528⟩] .nil .nil)
theorem rw12 : RowAt Tryd.prog 12 rt12 := qJx Tryd.func12 (by kernel_rfl)
def rt13 : BT (List Row) := (.node 0 [⟨0, 0⟩, ⟨0, 0⟩, ⟨2, 2⟩, ⟨4, 4⟩, ⟨8, 8⟩, ⟨0, 0⟩, ⟨32, 32⟩, ⟨64, 64⟩, ⟨128, 128⟩, ⟨0, 0⟩, ⟨512, 512⟩, ⟨1280, 1280⟩, ⟨2320, 2064⟩, ⟨8191, 1⟩, ⟨16383, 8192⟩, ⟨24575, 20480⟩] .nil .nil)
theorem rw13 : RowAt Tryd.prog 13 rt13 := qJx Tryd.func13 (by kernel_rfl)
def rt18 : BT (List Row) := (.node 5 [⟨0, 0⟩, ⟨0, 0⟩, ⟨2, 2⟩, ⟨1, 1⟩, ⟨15, 4⟩] .nil .nil)
theorem rw18 : RowAt Tryd.prog 18 rt18 := qJx Tryd.func18 (by kernel_rfl)
def rt21 : BT (List Row) := (.node 11 [⟨0, 0⟩, ⟨1, 1⟩, ⟨0, 0⟩, ⟨4, 4⟩, ⟨8, 8⟩, ⟨16, 16⟩, ⟨32, 32⟩, ⟨74, 66⟩, ⟨255, 0⟩, ⟨511, 384⟩] (.node 7 [⟨0, 0⟩, ⟨1, 1⟩, ⟨0, 0⟩, ⟨4, 4⟩, ⟨8, 8⟩, ⟨16, 16⟩, ⟨42, 34⟩, ⟨127, 0⟩, ⟨255, 192⟩] .nil .nil) .nil)
theorem rw21 : RowAt Tryd.prog 21 rt21 := qJx Tryd.func21 (by kernel_rfl)
def rt22 : BT (List Row) := (.node 4 [⟨0, 0⟩, ⟨0, 0⟩, ⟨3, 3⟩, ⟨4, 4⟩, ⟨8, 8⟩, ⟨0, 0⟩, ⟨32, 32⟩, ⟨80, 80⟩] .nil .nil)
theorem rw22 : RowAt Tryd.prog 22 rt22 := qJx Tryd.func22 (by kernel_rfl)
def rt26 : BT (List Row) := (.node 6 [⟨0, 0⟩, ⟨0, 0⟩, ⟨3, 3⟩, ⟨4, 4⟩, ⟨0, 0⟩, ⟨0, 0⟩, ⟨48, 48⟩, ⟨64, 64⟩, ⟨136, 136⟩] .nil .nil)
theorem rw26 : RowAt Tryd.prog 26 rt26 := qJx Tryd.func26 (by kernel_rfl)
def rt27 : BT (List Row) := (.node 6 [⟨0, 0⟩, ⟨0, 0⟩, ⟨3, 3⟩, ⟨4, 4⟩, ⟨0, 0⟩, ⟨0, 0⟩, ⟨48, 48⟩, ⟨64, 64⟩, ⟨136, 136⟩] .nil .nil)
theorem rw27 : RowAt Tryd.prog 27 rt27 := qJx Tryd.func27 (by kernel_rfl)
def rt28 : BT (List Row) := (.node 6 [⟨0, 0⟩, ⟨0, 0⟩, ⟨3, 3⟩, ⟨4, 4⟩, ⟨0, 0⟩, ⟨0, 0⟩, ⟨48, 48⟩, ⟨64, 64⟩, ⟨136, 136⟩] .nil .nil)
theorem rw28 : RowAt Tryd.prog 28 rt28 := qJx Tryd.func28 (by kernel_rfl)
def rt29 : BT (List Row) := (.node 6 [⟨0, 0⟩, ⟨0, 0⟩, ⟨3, 3⟩, ⟨4, 4⟩, ⟨0, 0⟩, ⟨0, 0⟩, ⟨48, 48⟩, ⟨64, 64⟩, ⟨136, 136⟩] .nil .nil)
theorem rw29 : RowAt Tryd.prog 29 rt29 := qJx Tryd.func29 (by kernel_rfl)
def rt34 : BT (List Row) := (.node 11 [⟨0, 0⟩, ⟨0, 0⟩, ⟨3, 3⟩, ⟨4, 4⟩, ⟨0, 0⟩, ⟨0, 0⟩, ⟨32, 32⟩, ⟨80, 80⟩, ⟨128, 128⟩, ⟨264, 264⟩] (.node 6 [⟨0, 0⟩, ⟨0, 0⟩, ⟨3, 3⟩, ⟨4, 4⟩, ⟨0, 0⟩, ⟨0, 0⟩, ⟨32, 32⟩, ⟨80, 80⟩, ⟨128, 128⟩, ⟨264, 264⟩] .nil .nil) .nil)
theorem rw34 : RowAt Tryd.prog 34 rt34 := qJx Tryd.func34 (by kernel_rfl)
def rt54 : BT (List Row) := (.node 5 [⟨0, 0⟩, ⟨0, 0⟩, ⟨3, 3⟩, ⟨4, 4⟩, ⟨0, 0⟩, ⟨0, 0⟩, ⟨48, 48⟩, ⟨64, 64⟩, ⟨136, 136⟩] .nil .nil)
theorem rw54 : RowAt Tryd.prog 54 rt54 := qJx Tryd.func54 (by kernel_rfl)
def rtB : RowT := (.node 22 rt22 (.node 12 rt12 (.node 9 rt9 (.node 3 rt3 .nil .nil) (.node 11 rt11 .nil .nil)) (.node 18 rt18 (.node 13 rt13 .nil .nil) (.node 21 rt21 .nil .nil))) (.node 29 rt29 (.node 27 rt27 (.node 26 rt26 .nil .nil) (.node 28 rt28 .nil .nil)) (.node 54 rt54 (.node 34 rt34 .nil .nil) .nil)))
theorem rtB_ok : RtsOk Tryd.prog (rtsB rtB) := rtsB_ok ⟨rw22, ⟨rw12, ⟨rw9, ⟨rw3, trivial, trivial⟩, ⟨rw11, trivial, trivial⟩⟩, ⟨rw18, ⟨rw13, trivial, trivial⟩, ⟨rw21, trivial, trivial⟩⟩⟩, ⟨rw29, ⟨rw27, ⟨rw26, trivial, trivial⟩, ⟨rw28, trivial, trivial⟩⟩, ⟨rw54, ⟨rw34, trivial, trivial⟩, trivial⟩⟩⟩

theorem own : ownKnob Tryd.prog.godebug = none := by kernel_rfl
theorem laidOut : laidOutB Tryd.prog = true := by kernel_rfl
theorem nogo : (Tryd.prog.funcs.all fun fn => fn.name != "runtime.NumGoroutine") = true := by kernel_rfl
theorem mixedOk : Tryd.prog.follows .mixedOrders = true := by kernel_rfl
/-- the types whose values are compared with no panic -/
noncomputable def seqB (t : TypeId) : Bool := !Tryd.prog.eqGuardType Tryd.prog.depth t && !Tryd.prog.stoodInHeld t
/-- the tables that the row lays, as rows that come in -/
def tabsL : List InD := [⟨[.int .i32], qZx [.c 0, .c 4129, .c 8258, .c 12387, .c 16516, .c 20645, .c 24774, .c 28903, .c 33032, .c 37161, .c 41290, .c 45419, .c 49548, .c 53677, .c 57806, .c 61935], .c 16, .c 16, some 0⟩]
/-- n: how deep a number may be without a name (0: none is named) -/
noncomputable def cxOf (n : Nat) : Cx :=
  { P := Tryd.prog, Γ := [], Φ := phiN, F := fN, lf := lfN, ins := [], tabs := tabsL, sh := n, und := undB tyB, inf := infB tyB, fn := fnB fuB, seq := seqB,
    undOk := undB_ok tyB_ok, infOk := fun _ _ h => BT.find_all tyB_ok h, fnOk := fun _ _ h => BT.find_all fuB_ok h,
    seqOk := fun t h => by unfold seqB at h; simpa using h }
theorem cxOf_ok (n : Nat) (m : Rc) : CxOk (m.cx (cxOf n)) :=
  ⟨mixedOk, fun f fn h => by
    have h1 := Array.all_eq_true.1 nogo
    obtain ⟨h2, h3⟩ := Array.getElem?_eq_some_iff.1 h
    have := h1 f h2
    have h4 : (Tryd.prog.funcs[f]'h2) = fn := h3
    rw [h4] at this
    simpa using this⟩
/-- the same, with what comes in -/
noncomputable def cxG (n : Nat) (Γ : List (Int × Int)) (ins : List InD) : Cx := { cxOf n with Γ := Γ, ins := ins ++ tabsL }
theorem tabsAll : (tabsL.all fun d => d.c.vb 0 && (d.n.vb 0 && d.cap.vb 0)) = true := by kernel_rfl
theorem tabsG (n : Nat) (Γ : List (Int × Int)) (ins : List InD) : TabsOk (cxG n Γ ins) := ⟨⟨ins, rfl⟩, fun d hd => by have := List.all_eq_true.1 tabsAll d hd; simp only [Bool.and_eq_true] at this; exact this⟩
theorem cxG_ok (n : Nat) (Γ : List (Int × Int)) (ins : List InD) : CxOk (cxG n Γ ins) :=
  ⟨mixedOk, fun f fn h => by
    have h1 := Array.all_eq_true.1 nogo
    obtain ⟨h2, h3⟩ := Array.getElem?_eq_some_iff.1 h
    have := h1 f h2
    have h4 : (Tryd.prog.funcs[f]'h2) = fn := h3
    rw [h4] at this
    simpa using this⟩
/-- a contract holds however much is named, and whatever else comes in -/
theorem rc_n {n k : Nat} {Γ : List (Int × Int)} {ins : List InD} {m : Rc} (h : RcOk (cxOf n) m) : RcOk (cxG k Γ ins) m :=
  fun ρ w hρ hc hp hr => h ρ w ⟨hρ.hi, hρ.hf, hρ.hv, hρ.hF, hρ.hP, hρ.hro⟩ hc hp hr
theorem rh_n {n k : Nat} {Γ : List (Int × Int)} {ins : List InD} {m : Rh} (h : RhOk (cxOf n) m) : RhOk (cxG k Γ ins) m :=
  fun ρ β w hρ hp hs => h ρ β w ⟨hρ.hi, hρ.hf, hρ.hv, hρ.hF, hρ.hP, hρ.hro⟩ hp hs
theorem mg {α : Type} {l : List α} {a : α} (i : Nat) (h : l[i]? = some a) : a ∈ l := List.mem_of_getElem? h
/-- the engine's runs -/
abbrev SMs := List (Int × Int) → List InD → Nat → SM
def SMsOk (sm : SMs) : Prop := ∀ Γ ins n, SmOk (cxG n Γ ins) (sm Γ ins n)
noncomputable def runC (sm : SMs) (Γ : List (Int × Int)) (ins : List InD) (n : Nat) : CF := execFn (cxG n Γ ins) (rtsB rtB) (sm Γ ins n) (fun _ _ => none) 40 30
theorem xok0 (cx : Cx) : XOk cx (fun _ _ => none) := fun _ _ _ _ _ _ _ h => by cases h
theorem runC_ok {sm : SMs} (h : SMsOk sm) (Γ : List (Int × Int)) (ins : List InD) (n : Nat) : qKw (cxG n Γ ins) (runC sm Γ ins n) := execFn_ok (cxG_ok n Γ ins) rtB_ok (h Γ ins n) (xok0 _) _
noncomputable def runG (sm : SMs) (lhs : LHS) (Γ : List (Int × Int)) (ins : List InD) (n : Nat) : CFT := execFnT (cxG n Γ ins) (rtsB rtB) (sm Γ ins n) (fun _ _ => none) lhs (runC sm Γ ins n) 40 30
theorem runG_ok {sm : SMs} (h : SMsOk sm) (lhs : LHS) (Γ : List (Int × Int)) (ins : List InD) (n : Nat) : qJw (cxG n Γ ins) (runG sm lhs Γ ins n) :=
  execFnT_ok (cxG_ok n Γ ins) rtB_ok (h Γ ins n) (xok0 _) (runC_ok h Γ ins n) _
noncomputable def runT (sm : SMs) (lhs : LHS) (m : Rc) (n : Nat) : CFT := runG sm lhs (bdsF m.ls) (qXi m.b m.c m.ls 0 0 0) n
theorem runT_ok {sm : SMs} (h : SMsOk sm) (lhs : LHS) (m : Rc) (n : Nat) : qJw (m.cx (cxOf n)) (runT sm lhs m n) := runG_ok h lhs _ _ n
noncomputable def runH (sm : SMs) (lhs : LHS) (m : Rk) (n : Nat) : CFT := runG sm lhs m.Γ m.ins n
theorem runH_ok {sm : SMs} (h : SMsOk sm) (lhs : LHS) (m : Rk) (n : Nat) : qJw (m.rh.cx (cxOf n)) (runH sm lhs m n) := runG_ok h lhs m.Γ m.ins n
/-! the parts of a contract's proof -/
noncomputable def fineR (n : Nat) (m : Rc) (t : TT (List E)) : Bool := TT.fine (m.cx (cxOf n)) 1000 [] t && (m.cx (cxOf n)).okB 1000 && SV.vbL 1000 m.args && TT.tidy (m.cx (cxOf n)) [] t
noncomputable def ranR (us : SMs) (lhs : LHS) (m : Rc) (n : Nat) (t : TT (List E)) : Bool := TT.beq (projL (m.pj (cxOf n)) (runT us lhs m n m.f m.args ⟨[], m.kn0⟩)) t
def statR (n : Nat) (m : Rc) (t : TT (List E)) (ρ : Env) : Prop := TT.hdP (m.cx (cxOf n)) (rlF ρ m.res) t ρ
theorem okR {us : SMs} {lhs : LHS} {m : Rc} {n : Nat} {t : TT (List E)} (hu : SMsOk us) (h1 : ranR us lhs m n t = true) (h2 : fineR n m t = true) (h3 : m.ok = true)
    (h : ∀ i v ro p, EnvOk (m.cx (cxOf n)) ⟨i, fN, v, ro, p⟩ → (∀ d ∈ qXi m.b m.c m.ls 0 0 0, d.n.ev ⟨i, fN, v, ro, p⟩ ≤ d.cap.ev ⟨i, fN, v, ro, p⟩) → (∀ e ∈ m.pre, e.evP ⟨i, fN, v, ro, p⟩ ≠ 0) → statR n m t ⟨i, fN, v, ro, p⟩) : RcOk (cxOf n) m :=
  rc_run (runT_ok hu lhs m n) h1 h2 h3 fun ρ hρ hcap hpre => by
    obtain ⟨i, f, v, ro, p⟩ := ρ
    have hf : f = fN := hρ.hF
    subst hf
    exact h i v ro p hρ hcap hpre
noncomputable def fineH (n : Nat) (m : Rk) (t : TT (List E)) : Bool := TT.fine (m.rh.cx (cxOf n)) 1000 [] t && (m.rh.cx (cxOf n)).okB 1000 && SV.vbL 1000 m.args && TT.tidy (m.rh.cx (cxOf n)) [] t
noncomputable def ranH (us : SMs) (lhs : LHS) (m : Rk) (n : Nat) (t : TT (List E)) : Bool := TT.beq (projL (m.pj (cxOf n)) (runH us lhs m n m.f m.args ⟨m.inb, m.kn0⟩)) t
def statH (n : Nat) (m : Rk) (t : TT (List E)) (ρ : Env) : Prop := TT.hdP (m.rh.cx (cxOf n)) (rsF ρ m.rs) t ρ
theorem okH {us : SMs} {lhs : LHS} {m : Rk} {n : Nat} {t : TT (List E)} (hu : SMsOk us) (h1 : ranH us lhs m n t = true) (h2 : fineH n m t = true) (h4 : blVb 1000 m.inb = true) (h3 : m.ok = true)
    (h : ∀ i v ro p, EnvOk (m.rh.cx (cxOf n)) ⟨i, fN, v, ro, p⟩ → (∀ e ∈ m.pre, e.evP ⟨i, fN, v, ro, p⟩ ≠ 0) → statH n m t ⟨i, fN, v, ro, p⟩) : RhOk (cxOf n) m.rh :=
  rk_run (runH_ok hu lhs m n) h1 h2 h4 h3 fun ρ hρ hpre => by
    obtain ⟨i, f, v, ro, p⟩ := ρ
    have hf : f = fN := hρ.hF
    subst hf
    exact h i v ro p hρ hpre
theorem den_row (ρ : Env) (β : Bt) (k z i j : Nat) : (SV.sl (.inp k) z (.c 0) (.v i) (some (.v j))).den ρ β = .slice (ρ.ro k).a (ρ.i i).toNat (ρ.i j).toNat := by
  simp only [SV.den, E.ev, map_addr_zero]
end Go.Proofs.YtkjbmbmdmhfbeaaDoor
