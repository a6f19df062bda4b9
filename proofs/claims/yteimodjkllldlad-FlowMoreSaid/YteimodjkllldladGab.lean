/-
  The program's tables of types, of functions and of all regions that draw their order, as trees; the engine at this program. Printed by program.
-/
import Derived.Test.YteimodjkllldladGu5
import Derived.Test.YteimodjkllldladRows
import Derived.WalkKit
import Derived.ProofKit
set_option linter.unusedVariables false
set_option linter.unusedSimpArgs false
namespace Go.Proofs.Yteimodjkllldlad
open Go Go.Eng Go.RowKit
set_option maxRecDepth 100000
noncomputable def tyB : BT TypeInfo := (.node 42 Try.t42 (.node 24 Try.t24 (.node 9 Try.t9 (.node 4 Try.t4 (.node 3 Try.t3 .nil .nil) (.node 5 Try.t5 .nil .nil)) (.node 22 Try.t22 (.node 21 Try.t21 .nil .nil) (.node 23 Try.t23 .nil .nil))) (.node 29 Try.t29 (.node 26 Try.t26 (.node 25 Try.t25 .nil .nil) (.node 27 Try.t27 .nil .nil)) (.node 37 Try.t37 (.node 33 Try.t33 .nil .nil) (.node 38 Try.t38 .nil .nil)))) (.node 57 Try.t57 (.node 46 Try.t46 (.node 44 Try.t44 (.node 43 Try.t43 .nil .nil) (.node 45 Try.t45 .nil .nil)) (.node 48 Try.t48 (.node 47 Try.t47 .nil .nil) (.node 56 Try.t56 .nil .nil))) (.node 75 Try.t75 (.node 71 Try.t71 (.node 65 Try.t65 .nil .nil) (.node 73 Try.t73 .nil .nil)) (.node 77 Try.t77 (.node 76 Try.t76 .nil .nil) (.node 78 Try.t78 .nil .nil)))))
theorem tyB_ok : tyB.All fun i v => Try.prog.info? i = some v := ⟨Try.type42, ⟨Try.type24, ⟨Try.type9, ⟨Try.type4, ⟨Try.type3, trivial, trivial⟩, ⟨Try.type5, trivial, trivial⟩⟩, ⟨Try.type22, ⟨Try.type21, trivial, trivial⟩, ⟨Try.type23, trivial, trivial⟩⟩⟩, ⟨Try.type29, ⟨Try.type26, ⟨Try.type25, trivial, trivial⟩, ⟨Try.type27, trivial, trivial⟩⟩, ⟨Try.type37, ⟨Try.type33, trivial, trivial⟩, ⟨Try.type38, trivial, trivial⟩⟩⟩⟩, ⟨Try.type57, ⟨Try.type46, ⟨Try.type44, ⟨Try.type43, trivial, trivial⟩, ⟨Try.type45, trivial, trivial⟩⟩, ⟨Try.type48, ⟨Try.type47, trivial, trivial⟩, ⟨Try.type56, trivial, trivial⟩⟩⟩, ⟨Try.type75, ⟨Try.type71, ⟨Try.type65, trivial, trivial⟩, ⟨Try.type73, trivial, trivial⟩⟩, ⟨Try.type77, ⟨Try.type76, trivial, trivial⟩, ⟨Try.type78, trivial, trivial⟩⟩⟩⟩⟩
noncomputable def fuB : BT Func := (.node 28 Try.f28 (.node 15 Try.f15 (.node 9 Try.f9 (.node 6 Try.f6 (.node 4 Try.f4 (.node 3 Try.f3 .nil .nil) (.node 5 Try.f5 .nil .nil)) (.node 8 Try.f8 (.node 7 Try.f7 .nil .nil) .nil)) (.node 12 Try.f12 (.node 11 Try.f11 (.node 10 Try.f10 .nil .nil) .nil) (.node 14 Try.f14 (.node 13 Try.f13 .nil .nil) .nil))) (.node 22 Try.f22 (.node 19 Try.f19 (.node 17 Try.f17 (.node 16 Try.f16 .nil .nil) (.node 18 Try.f18 .nil .nil)) (.node 21 Try.f21 (.node 20 Try.f20 .nil .nil) .nil)) (.node 25 Try.f25 (.node 24 Try.f24 (.node 23 Try.f23 .nil .nil) .nil) (.node 27 Try.f27 (.node 26 Try.f26 .nil .nil) .nil)))) (.node 43 Try.f43 (.node 35 Try.f35 (.node 32 Try.f32 (.node 30 Try.f30 (.node 29 Try.f29 .nil .nil) (.node 31 Try.f31 .nil .nil)) (.node 34 Try.f34 (.node 33 Try.f33 .nil .nil) .nil)) (.node 38 Try.f38 (.node 37 Try.f37 (.node 36 Try.f36 .nil .nil) .nil) (.node 40 Try.f40 (.node 39 Try.f39 .nil .nil) .nil))) (.node 50 Try.f50 (.node 47 Try.f47 (.node 45 Try.f45 (.node 44 Try.f44 .nil .nil) (.node 46 Try.f46 .nil .nil)) (.node 49 Try.f49 (.node 48 Try.f48 .nil .nil) .nil)) (.node 88 Try.f88 (.node 87 Try.f87 (.node 62 Try.f62 .nil .nil) .nil) (.node 90 Try.f90 (.node 89 Try.f89 .nil .nil) .nil)))))
theorem fuB_ok : fuB.All fun i v => Try.prog.funcs[i]? = some v := ⟨Try.func28, ⟨Try.func15, ⟨Try.func9, ⟨Try.func6, ⟨Try.func4, ⟨Try.func3, trivial, trivial⟩, ⟨Try.func5, trivial, trivial⟩⟩, ⟨Try.func8, ⟨Try.func7, trivial, trivial⟩, trivial⟩⟩, ⟨Try.func12, ⟨Try.func11, ⟨Try.func10, trivial, trivial⟩, trivial⟩, ⟨Try.func14, ⟨Try.func13, trivial, trivial⟩, trivial⟩⟩⟩, ⟨Try.func22, ⟨Try.func19, ⟨Try.func17, ⟨Try.func16, trivial, trivial⟩, ⟨Try.func18, trivial, trivial⟩⟩, ⟨Try.func21, ⟨Try.func20, trivial, trivial⟩, trivial⟩⟩, ⟨Try.func25, ⟨Try.func24, ⟨Try.func23, trivial, trivial⟩, trivial⟩, ⟨Try.func27, ⟨Try.func26, trivial, trivial⟩, trivial⟩⟩⟩⟩, ⟨Try.func43, ⟨Try.func35, ⟨Try.func32, ⟨Try.func30, ⟨Try.func29, trivial, trivial⟩, ⟨Try.func31, trivial, trivial⟩⟩, ⟨Try.func34, ⟨Try.func33, trivial, trivial⟩, trivial⟩⟩, ⟨Try.func38, ⟨Try.func37, ⟨Try.func36, trivial, trivial⟩, trivial⟩, ⟨Try.func40, ⟨Try.func39, trivial, trivial⟩, trivial⟩⟩⟩, ⟨Try.func50, ⟨Try.func47, ⟨Try.func45, ⟨Try.func44, trivial, trivial⟩, ⟨Try.func46, trivial, trivial⟩⟩, ⟨Try.func49, ⟨Try.func48, trivial, trivial⟩, trivial⟩⟩, ⟨Try.func88, ⟨Try.func87, ⟨Try.func62, trivial, trivial⟩, trivial⟩, ⟨Try.func90, ⟨Try.func89, trivial, trivial⟩, trivial⟩⟩⟩⟩⟩
def rt3 : BT (List Row) := (.node 12 [⟨0, 0⟩, ⟨0, 0⟩, ⟨3, 3⟩, ⟨4, 4⟩, ⟨0, 0⟩, ⟨0, 0⟩, ⟨48, 48⟩, ⟨64, 64⟩, ⟨136, 136⟩, ⟨256, 256⟩, ⟨512, 512⟩, ⟨1024, 1024⟩, ⟨1024, 1024⟩, ⟨7168, 7168⟩, ⟨9216, 9216⟩, ⟨17408, 17408⟩, ⟨33792, 33792⟩, ⟨66560, 66560⟩] (.node 6 [⟨0, 0⟩, ⟨1, 1⟩, ⟨0, 0⟩, ⟨6, 4⟩, ⟨11, 2⟩, ⟨31, 8⟩] .nil .nil) .nil)
theorem rw3 : RowAt Try.prog 3 rt3 := qZp Try.func3 (by kernel_rfl)
def rt5 : BT (List Row) := (.node 11 [⟨0, 0⟩, ⟨1, 1⟩, ⟨0, 0⟩, ⟨6, 6⟩, ⟨8, 8⟩, ⟨0, 0⟩, ⟨32, 32⟩, ⟨0, 0⟩, ⟨192, 192⟩, ⟨256, 256⟩, ⟨528, 528⟩] .nil .nil)
theorem rw5 : RowAt Try.prog 5 rt5 := qZp Try.func5 (by kernel_rfl)
def rt8 : BT (List Row) := (.node 6 [⟨0, 0⟩, ⟨0, 0⟩, ⟨3, 3⟩, ⟨4, 4⟩, ⟨0, 0⟩, ⟨0, 0⟩, ⟨48, 48⟩, ⟨64, 64⟩, ⟨136, 136⟩] .nil .nil)
theorem rw8 : RowAt Try.prog 8 rt8 := qZp Try.func8 (by kernel_rfl)
def rt11 : BT (List Row) := (.node 12 [⟨0, 0⟩, ⟨1, 1⟩, ⟨2, 2⟩, ⟨0, 0⟩, ⟨8, 8⟩, ⟨16, 16⟩, ⟨36, 36⟩, ⟨66, 64⟩] .nil .nil)
theorem rw11 : RowAt Try.prog 11 rt11 := qZp Try.func11 (by kernel_rfl)
def rt12 : BT (List Row) := (.node 6 [⟨0, 0⟩, ⟨0, 0⟩, ⟨2, 2⟩, ⟨4, 4⟩, ⟨8, 8⟩, ⟨0, 0⟩, ⟨32, 32⟩, ⟨80, 80⟩, ⟨255, 1⟩, ⟨511, 256⟩, ⟨767, 640⟩] (.node 1 [⟨0, 0⟩, ⟨0, 0⟩, ⟨2, 2⟩, ⟨4, 4⟩, ⟨8, 8⟩, ⟨17, 17⟩, ⟨32, 32⟩, ⟨127, 64⟩] .nil .nil) (.node 8 [⟨0, 0⟩, ⟨0, 0⟩, ⟨0, 0⟩, ⟨4, 4⟩, ⟨8, 8⟩, ⟨0, 0⟩, ⟨32, 32⟩, ⟨80, 64⟩, ⟨157, 1⟩, ⟨413, 256⟩, ⟨669, 528⟩, ⟨2047, 2⟩, ⟨4095, 2048⟩, ⟨6143, 4224⟩] .nil .nil))
theorem rw12 : RowAt Try.prog 12 rt12 := qZp Try.func12 (by kernel_rfl)
def rt16 : BT (List Row) := (.node 2 [⟨0, 0⟩, ⟨1, 1⟩, ⟨0, 0⟩, ⟨4, 4⟩, ⟨8, 8⟩, ⟨18, 18⟩, ⟨32, 32⟩, ⟨0, 0⟩, ⟨128, 128⟩, ⟨0, 0⟩, ⟨512, 512⟩, ⟨1040, 1024⟩, ⟨2304, 2304⟩, ⟨4096, 4096⟩, ⟨0, 0⟩, ⟨16384, 16384⟩, ⟨0, 0⟩, ⟨65536, 65536⟩, ⟨133120, 131072⟩, ⟨294912, 294912⟩, ⟨524288, 524288⟩, ⟨262271, 64⟩, ⟨2113535, 8192⟩, ⟨8388607, 1048576⟩] (.node 1 [⟨0, 0⟩, ⟨1, 1⟩, ⟨2, 2⟩, ⟨4, 4⟩, ⟨0, 0⟩, ⟨24, 24⟩, ⟨32, 32⟩, ⟨0, 0⟩, ⟨128, 128⟩, ⟨256, 256⟩, ⟨512, 512⟩, ⟨0, 0⟩, ⟨3072, 3072⟩, ⟨4096, 4096⟩, ⟨0, 0⟩, ⟨0, 0⟩, ⟨49279, 16448⟩, ⟨131071, 40960⟩] .nil .nil) (.node 13 [⟨0, 0⟩, ⟨1, 1⟩, ⟨2, 2⟩, ⟨6, 6⟩, ⟨10, 10⟩, ⟨18, 18⟩, ⟨34, 34⟩, ⟨2, 2⟩, ⟨130, 130⟩, ⟨322, 322⟩, ⟨514, 514⟩, ⟨1026, 1026⟩, ⟨2050, 2050⟩, ⟨8191, 4096⟩] .nil .nil))
theorem rw16 : RowAt Try.prog 16 rt16 := qZp Try.func16 (by kernel_rfl)
def rt20 : BT (List Row) := (.node 11 [⟨0, 0⟩, ⟨0, 0⟩, ⟨3, 3⟩, ⟨4, 4⟩, ⟨0, 0⟩, ⟨0, 0⟩, ⟨32, 32⟩, ⟨80, 80⟩, ⟨128, 128⟩, ⟨264, 264⟩] (.node 6 [⟨0, 0⟩, ⟨0, 0⟩, ⟨3, 3⟩, ⟨4, 4⟩, ⟨0, 0⟩, ⟨0, 0⟩, ⟨32, 32⟩, ⟨80, 80⟩, ⟨128, 128⟩, ⟨264, 264⟩] .nil .nil) .nil)
theorem rw20 : RowAt Try.prog 20 rt20 := qZp Try.func20 (by kernel_rfl)
def rt23 : BT (List Row) := (.node 4 [⟨0, 0⟩, ⟨1, 1⟩, ⟨2, 2⟩, ⟨4, 4⟩, ⟨0, 0⟩, ⟨0, 0⟩, ⟨63, 24⟩, ⟨127, 96⟩] .nil .nil)
theorem rw23 : RowAt Try.prog 23 rt23 := qZp Try.func23 (by kernel_rfl)
def rt26 : BT (List Row) := (.node 0 [⟨0, 0⟩, ⟨1, 1⟩, ⟨2, 2⟩, ⟨4, 4⟩, ⟨0, 0⟩, ⟨24, 24⟩, ⟨32, 32⟩, ⟨0, 0⟩, ⟨128, 128⟩, ⟨256, 256⟩, ⟨512, 512⟩, ⟨0, 0⟩, ⟨3072, 3072⟩, ⟨4096, 4096⟩, ⟨8192, 8192⟩, ⟨0, 0⟩, ⟨32895, 32832⟩, ⟨131071, 16384⟩] .nil .nil)
theorem rw26 : RowAt Try.prog 26 rt26 := qZp Try.func26 (by kernel_rfl)
def rt29 : BT (List Row) := (.node 1 [⟨0, 0⟩, ⟨1, 1⟩, ⟨2, 2⟩, ⟨4, 4⟩, ⟨8, 8⟩, ⟨24, 24⟩, ⟨40, 40⟩, ⟨72, 72⟩, ⟨136, 128⟩, ⟨256, 256⟩, ⟨768, 768⟩, ⟨1280, 1280⟩, ⟨2304, 2304⟩, ⟨4352, 4096⟩, ⟨8192, 8192⟩, ⟨24576, 24576⟩, ⟨8192, 8192⟩, ⟨73728, 73728⟩, ⟨139264, 139264⟩, ⟨270336, 270336⟩, ⟨532480, 532480⟩, ⟨1056768, 1056768⟩, ⟨2138112, 2138112⟩, ⟨4202496, 4202496⟩, ⟨16777215, 8388608⟩] .nil .nil)
theorem rw29 : RowAt Try.prog 29 rt29 := qZp Try.func29 (by kernel_rfl)
def rt35 : BT (List Row) := (.node 8 [⟨0, 0⟩, ⟨0, 0⟩, ⟨2, 2⟩, ⟨4, 4⟩, ⟨8, 8⟩, ⟨16, 16⟩, ⟨32, 32⟩, ⟨0, 0⟩, ⟨128, 128⟩, ⟨256, 256⟩, ⟨512, 512⟩, ⟨1088, 1088⟩, ⟨0, 0⟩, ⟨4096, 4096⟩, ⟨10240, 10240⟩, ⟨16385, 16385⟩, ⟨65535, 32769⟩] .nil .nil)
theorem rw35 : RowAt Try.prog 35 rt35 := qZp Try.func35 (by kernel_rfl)
def rt39 : BT (List Row) := (.node 13 [⟨0, 0⟩, ⟨1, 1⟩, ⟨2, 2⟩, ⟨4, 4⟩, ⟨8, 8⟩, ⟨0, 0⟩, ⟨32, 32⟩, ⟨80, 80⟩, ⟨128, 128⟩, ⟨511, 256⟩, ⟨1023, 0⟩] .nil .nil)
theorem rw39 : RowAt Try.prog 39 rt39 := qZp Try.func39 (by kernel_rfl)
def rt87 : BT (List Row) := (.node 1 [⟨0, 0⟩, ⟨0, 0⟩, ⟨3, 3⟩, ⟨4, 4⟩, ⟨0, 0⟩, ⟨0, 0⟩, ⟨48, 48⟩, ⟨64, 64⟩, ⟨136, 136⟩, ⟨511, 256⟩] .nil .nil)
theorem rw87 : RowAt Try.prog 87 rt87 := qZp Try.func87 (by kernel_rfl)
def rt88 : BT (List Row) := (.node 0 [⟨0, 0⟩, ⟨0, 0⟩, ⟨0, 0⟩, ⟨0, 0⟩, ⟨0, 0⟩, ⟨0, 0⟩, ⟨48, 48⟩, ⟨64, 64⟩, ⟨0, 0⟩, ⟨0, 0⟩, ⟨768, 768⟩, ⟨1024, 1024⟩, ⟨2291, 3⟩, ⟨6387, 4224⟩, ⟨16383, 12⟩, ⟨32767, 18432⟩] .nil .nil)
theorem rw88 : RowAt Try.prog 88 rt88 := qZp Try.func88 (by kernel_rfl)
def rtB : RowT := (.node 23 rt23 (.node 11 rt11 (.node 5 rt5 (.node 3 rt3 .nil .nil) (.node 8 rt8 .nil .nil)) (.node 16 rt16 (.node 12 rt12 .nil .nil) (.node 20 rt20 .nil .nil))) (.node 39 rt39 (.node 29 rt29 (.node 26 rt26 .nil .nil) (.node 35 rt35 .nil .nil)) (.node 88 rt88 (.node 87 rt87 .nil .nil) .nil)))
theorem rtB_ok : RtsOk Try.prog (rtsB rtB) := rtsB_ok ⟨rw23, ⟨rw11, ⟨rw5, ⟨rw3, trivial, trivial⟩, ⟨rw8, trivial, trivial⟩⟩, ⟨rw16, ⟨rw12, trivial, trivial⟩, ⟨rw20, trivial, trivial⟩⟩⟩, ⟨rw39, ⟨rw29, ⟨rw26, trivial, trivial⟩, ⟨rw35, trivial, trivial⟩⟩, ⟨rw88, ⟨rw87, trivial, trivial⟩, trivial⟩⟩⟩

theorem own : ownKnob Try.prog.godebug = none := by kernel_rfl
theorem laidOut : laidOutB Try.prog = true := by kernel_rfl
theorem nogo : (Try.prog.funcs.all fun fn => fn.name != "runtime.NumGoroutine") = true := by kernel_rfl
theorem mixedOk : Try.prog.follows .mixedOrders = true := by kernel_rfl
/-- the types whose values are compared with no panic -/
noncomputable def seqB (t : TypeId) : Bool := !Try.prog.eqGuardType Try.prog.depth t && !Try.prog.stoodInHeld t
/-- the tables that the row lays, as rows that come in -/
def tabsL : List InD := []
/-- n: how deep a number may be without a name (0: none is named) -/
noncomputable def cxOf (n : Nat) : Cx :=
  { P := Try.prog, Γ := [], Φ := phiN, F := fN, lf := lfN, ins := [], tabs := tabsL, sh := n, und := undB tyB, inf := infB tyB, fn := fnB fuB, seq := seqB,
    undOk := undB_ok tyB_ok, infOk := fun _ _ h => BT.find_all tyB_ok h, fnOk := fun _ _ h => BT.find_all fuB_ok h,
    seqOk := fun t h => by unfold seqB at h; simpa using h }
theorem cxOf_ok (n : Nat) (m : Rc) : CxOk (m.cx (cxOf n)) :=
  ⟨mixedOk, fun f fn h => by
    have h1 := Array.all_eq_true.1 nogo
    obtain ⟨h2, h3⟩ := Array.getElem?_eq_some_iff.1 h
    have := h1 f h2
    have h4 : (Try.prog.funcs[f]'h2) = fn := h3
    rw [h4] at this
    simpa using this⟩
/-- the same, with what comes in -/
noncomputable def cxG (n : Nat) (Γ : List (Int × Int)) (ins : List InD) : Cx := { cxOf n with Γ := Γ, ins := ins ++ tabsL }
theorem tabsAll : (tabsL.all fun d => d.c.vb 0 && (d.n.vb 0 && d.cap.vb 0)) = true := by kernel_rfl
theorem tabsG (n : Nat) (Γ : List (Int × Int)) (ins : List InD) : TabsOk (cxG n Γ ins) := ⟨⟨ins, rfl⟩, fun d hd => by have := List.all_eq_true.1 tabsAll d hd; simp only [Bool.and_eq_true] at this; exact this⟩
theorem cxG_ok (n : Nat) (Γ : List (Int × Int)) (ins : List InD) : CxOk (cxG n Γ ins) :=
  ⟨mixedOk, fun f fn h => by
    have h1 := Array.all_eq_true.1 nogo
    obtain ⟨h2, h3⟩ := Array.getElem?_eq_some_iff.1 h
    have := h1 f h2
    have h4 : (Try.prog.funcs[f]'h2) = fn := h3
    rw [h4] at this
    simpa using this⟩
/-- a contract holds however much is named, and whatever else comes in -/
theorem rc_n {n k : Nat} {Γ : List (Int × Int)} {ins : List InD} {m : Rc} (h : RcOk (cxOf n) m) : RcOk (cxG k Γ ins) m :=
  fun ρ w hρ hc hp hr => h ρ w ⟨hρ.hi, hρ.hf, hρ.hv, hρ.hF, hρ.hP, hρ.hro⟩ hc hp hr
theorem rh_n {n k : Nat} {Γ : List (Int × Int)} {ins : List InD} {m : Rh} (h : RhOk (cxOf n) m) : RhOk (cxG k Γ ins) m :=
  fun ρ β w hρ hp hs => h ρ β w ⟨hρ.hi, hρ.hf, hρ.hv, hρ.hF, hρ.hP, hρ.hro⟩ hp hs
theorem mg {α : Type} {l : List α} {a : α} (i : Nat) (h : l[i]? = some a) : a ∈ l := List.mem_of_getElem? h
/-- the engine's runs -/
abbrev SMs := List (Int × Int) → List InD → Nat → SM
def SMsOk (sm : SMs) : Prop := ∀ Γ ins n, SmOk (cxG n Γ ins) (sm Γ ins n)
noncomputable def runC (sm : SMs) (Γ : List (Int × Int)) (ins : List InD) (n : Nat) : CF := execFn (cxG n Γ ins) (rtsB rtB) (sm Γ ins n) (fun _ _ => none) 40 30
theorem xok0 (cx : Cx) : XOk cx (fun _ _ => none) := fun _ _ _ _ _ _ _ h => by cases h
theorem runC_ok {sm : SMs} (h : SMsOk sm) (Γ : List (Int × Int)) (ins : List InD) (n : Nat) : qKf (cxG n Γ ins) (runC sm Γ ins n) := execFn_ok (cxG_ok n Γ ins) rtB_ok (h Γ ins n) (xok0 _) _
noncomputable def runG (sm : SMs) (lhs : LHS) (Γ : List (Int × Int)) (ins : List InD) (n : Nat) : CFT := execFnT (cxG n Γ ins) (rtsB rtB) (sm Γ ins n) (fun _ _ => none) lhs (runC sm Γ ins n) 40 30
theorem runG_ok {sm : SMs} (h : SMsOk sm) (lhs : LHS) (Γ : List (Int × Int)) (ins : List InD) (n : Nat) : qJx (cxG n Γ ins) (runG sm lhs Γ ins n) :=
  execFnT_ok (cxG_ok n Γ ins) rtB_ok (h Γ ins n) (xok0 _) (runC_ok h Γ ins n) _
noncomputable def runT (sm : SMs) (lhs : LHS) (m : Rc) (n : Nat) : CFT := runG sm lhs (bdsF m.ls) (qXg m.b m.c m.ls 0 0 0) n
theorem runT_ok {sm : SMs} (h : SMsOk sm) (lhs : LHS) (m : Rc) (n : Nat) : qJx (m.cx (cxOf n)) (runT sm lhs m n) := runG_ok h lhs _ _ n
noncomputable def runH (sm : SMs) (lhs : LHS) (m : Rk) (n : Nat) : CFT := runG sm lhs m.Γ m.ins n
theorem runH_ok {sm : SMs} (h : SMsOk sm) (lhs : LHS) (m : Rk) (n : Nat) : qJx (m.rh.cx (cxOf n)) (runH sm lhs m n) := runG_ok h lhs m.Γ m.ins n
/-! the parts of a contract's proof -/
noncomputable def fineR (n : Nat) (m : Rc) (t : TT (List E)) : Bool := TT.fine (m.cx (cxOf n)) 1000 [] t && (m.cx (cxOf n)).okB 1000 && SV.vbL 1000 m.args && TT.tidy (m.cx (cxOf n)) [] t
noncomputable def ranR (us : SMs) (lhs : LHS) (m : Rc) (n : Nat) (t : TT (List E)) : Bool := TT.beq (projL (m.pj (cxOf n)) (runT us lhs m n m.f m.args ⟨[], []⟩)) t
def statR (n : Nat) (m : Rc) (t : TT (List E)) (ρ : Env) : Prop := TT.hdP (m.cx (cxOf n)) (rlF ρ m.res) t ρ
theorem okR {us : SMs} {lhs : LHS} {m : Rc} {n : Nat} {t : TT (List E)} (hu : SMsOk us) (h1 : ranR us lhs m n t = true) (h2 : fineR n m t = true) (h3 : m.ok = true)
    (h : ∀ i v ro p, EnvOk (m.cx (cxOf n)) ⟨i, fN, v, ro, p⟩ → (∀ d ∈ qXg m.b m.c m.ls 0 0 0, d.n.ev ⟨i, fN, v, ro, p⟩ ≤ d.cap.ev ⟨i, fN, v, ro, p⟩) → (∀ e ∈ m.pre, e.evP ⟨i, fN, v, ro, p⟩ ≠ 0) → statR n m t ⟨i, fN, v, ro, p⟩) : RcOk (cxOf n) m :=
  rc_run (runT_ok hu lhs m n) h1 h2 h3 fun ρ hρ hcap hpre => by
    obtain ⟨i, f, v, ro, p⟩ := ρ
    have hf : f = fN := hρ.hF
    subst hf
    exact h i v ro p hρ hcap hpre
noncomputable def fineH (n : Nat) (m : Rk) (t : TT (List E)) : Bool := TT.fine (m.rh.cx (cxOf n)) 1000 [] t && (m.rh.cx (cxOf n)).okB 1000 && SV.vbL 1000 m.args && TT.tidy (m.rh.cx (cxOf n)) [] t
noncomputable def ranH (us : SMs) (lhs : LHS) (m : Rk) (n : Nat) (t : TT (List E)) : Bool := TT.beq (projL (m.pj (cxOf n)) (runH us lhs m n m.f m.args ⟨m.inb, m.kn0⟩)) t
def statH (n : Nat) (m : Rk) (t : TT (List E)) (ρ : Env) : Prop := TT.hdP (m.rh.cx (cxOf n)) (rsF ρ m.rs) t ρ
theorem okH {us : SMs} {lhs : LHS} {m : Rk} {n : Nat} {t : TT (List E)} (hu : SMsOk us) (h1 : ranH us lhs m n t = true) (h2 : fineH n m t = true) (h4 : blVb 1000 m.inb = true) (h3 : m.ok = true)
    (h : ∀ i v ro p, EnvOk (m.rh.cx (cxOf n)) ⟨i, fN, v, ro, p⟩ → (∀ e ∈ m.pre, e.evP ⟨i, fN, v, ro, p⟩ ≠ 0) → statH n m t ⟨i, fN, v, ro, p⟩) : RhOk (cxOf n) m.rh :=
  rk_run (runH_ok hu lhs m n) h1 h2 h4 h3 fun ρ hρ hpre => by
    obtain ⟨i, f, v, ro, p⟩ := ρ
    have hf : f = fN := hρ.hF
    subst hf
    exact h i v ro p hρ hpre
theorem den_row (ρ : Env) (β : Bt) (k z i j : Nat) : (SV.sl (.inp k) z (.c 0) (.v i) (some (.v j))).den ρ β = .slice (ρ.ro k).a (ρ.i i).toNat (ρ.i j).toNat := by
  simp only [SV.den, E.ev, map_addr_zero]
end Go.Proofs.Yteimodjkllldlad
