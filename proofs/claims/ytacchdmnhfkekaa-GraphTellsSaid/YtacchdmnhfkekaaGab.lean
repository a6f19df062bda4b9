/-
  The program's tables of types, of functions and of all regions that draw their order, as trees; the engine at this program. Printed by program.
-/
import Derived.Test.YtacchdmnhfkekaaGu5
import Derived.Test.YtacchdmnhfkekaaRows
import Derived.WalkKit
import Derived.ProofKit
set_option linter.unusedVariables false
set_option linter.unusedSimpArgs false
namespace Go.Proofs.Ytacchdmnhfkekaa
open Go Go.Eng Go.RowKit
set_option maxRecDepth 100000
noncomputable def tyB : BT TypeInfo := (.node 37 Try.t37 (.node 25 Try.t25 (.node 5 Try.t5 (.node 4 Try.t4 (.node 3 Try.t3 .nil .nil) .nil) (.node 22 Try.t22 (.node 9 Try.t9 .nil .nil) .nil)) (.node 35 Try.t35 (.node 32 Try.t32 (.node 28 Try.t28 .nil .nil) .nil) (.node 36 Try.t36 .nil .nil))) (.node 66 Try.t66 (.node 40 Try.t40 (.node 39 Try.t39 (.node 38 Try.t38 .nil .nil) .nil) (.node 64 Try.t64 (.node 62 Try.t62 .nil .nil) .nil)) (.node 70 Try.t70 (.node 69 Try.t69 (.node 68 Try.t68 .nil .nil) .nil) (.node 71 Try.t71 .nil .nil))))
theorem tyB_ok : tyB.All fun i v => Try.prog.info? i = some v := ⟨Try.type37, ⟨Try.type25, ⟨Try.type5, ⟨Try.type4, ⟨Try.type3, trivial, trivial⟩, trivial⟩, ⟨Try.type22, ⟨Try.type9, trivial, trivial⟩, trivial⟩⟩, ⟨Try.type35, ⟨Try.type32, ⟨Try.type28, trivial, trivial⟩, trivial⟩, ⟨Try.type36, trivial, trivial⟩⟩⟩, ⟨Try.type66, ⟨Try.type40, ⟨Try.type39, ⟨Try.type38, trivial, trivial⟩, trivial⟩, ⟨Try.type64, ⟨Try.type62, trivial, trivial⟩, trivial⟩⟩, ⟨Try.type70, ⟨Try.type69, ⟨Try.type68, trivial, trivial⟩, trivial⟩, ⟨Try.type71, trivial, trivial⟩⟩⟩⟩
noncomputable def fuB : BT Func := (.node 26 Try.f26 (.node 14 Try.f14 (.node 8 Try.f8 (.node 5 Try.f5 (.node 4 Try.f4 (.node 3 Try.f3 .nil .nil) .nil) (.node 7 Try.f7 (.node 6 Try.f6 .nil .nil) .nil)) (.node 11 Try.f11 (.node 10 Try.f10 (.node 9 Try.f9 .nil .nil) .nil) (.node 13 Try.f13 (.node 12 Try.f12 .nil .nil) .nil))) (.node 20 Try.f20 (.node 17 Try.f17 (.node 16 Try.f16 (.node 15 Try.f15 .nil .nil) .nil) (.node 19 Try.f19 (.node 18 Try.f18 .nil .nil) .nil)) (.node 23 Try.f23 (.node 22 Try.f22 (.node 21 Try.f21 .nil .nil) .nil) (.node 25 Try.f25 (.node 24 Try.f24 .nil .nil) .nil)))) (.node 53 Try.f53 (.node 43 Try.f43 (.node 33 Try.f33 (.node 28 Try.f28 (.node 27 Try.f27 .nil .nil) .nil) (.node 42 Try.f42 (.node 41 Try.f41 .nil .nil) .nil)) (.node 46 Try.f46 (.node 45 Try.f45 (.node 44 Try.f44 .nil .nil) .nil) (.node 48 Try.f48 (.node 47 Try.f47 .nil .nil) .nil))) (.node 59 Try.f59 (.node 56 Try.f56 (.node 55 Try.f55 (.node 54 Try.f54 .nil .nil) .nil) (.node 58 Try.f58 (.node 57 Try.f57 .nil .nil) .nil)) (.node 70 Try.f70 (.node 69 Try.f69 (.node 65 Try.f65 .nil .nil) .nil) (.node 76 Try.f76 .nil .nil)))))
theorem fuB_ok : fuB.All fun i v => Try.prog.funcs[i]? = some v := ⟨Try.func26, ⟨Try.func14, ⟨Try.func8, ⟨Try.func5, ⟨Try.func4, ⟨Try.func3, trivial, trivial⟩, trivial⟩, ⟨Try.func7, ⟨Try.func6, trivial, trivial⟩, trivial⟩⟩, ⟨Try.func11, ⟨Try.func10, ⟨Try.func9, trivial, trivial⟩, trivial⟩, ⟨Try.func13, ⟨Try.func12, trivial, trivial⟩, trivial⟩⟩⟩, ⟨Try.func20, ⟨Try.func17, ⟨Try.func16, ⟨Try.func15, trivial, trivial⟩, trivial⟩, ⟨Try.func19, ⟨Try.func18, trivial, trivial⟩, trivial⟩⟩, ⟨Try.func23, ⟨Try.func22, ⟨Try.func21, trivial, trivial⟩, trivial⟩, ⟨Try.func25, ⟨Try.func24, trivial, trivial⟩, trivial⟩⟩⟩⟩, ⟨Try.func53, ⟨Try.func43, ⟨Try.func33, ⟨Try.func28, ⟨Try.func27, trivial, trivial⟩, trivial⟩, ⟨Try.func42, ⟨Try.func41, trivial, trivial⟩, trivial⟩⟩, ⟨Try.func46, ⟨Try.func45, ⟨Try.func44, trivial, trivial⟩, trivial⟩, ⟨Try.func48, ⟨Try.func47, trivial, trivial⟩, trivial⟩⟩⟩, ⟨Try.func59, ⟨Try.func56, ⟨Try.func55, ⟨Try.func54, trivial, trivial⟩, trivial⟩, ⟨Try.func58, ⟨Try.func57, trivial, trivial⟩, trivial⟩⟩, ⟨Try.func70, ⟨Try.func69, ⟨Try.func65, trivial, trivial⟩, trivial⟩, ⟨Try.func76, trivial, trivial⟩⟩⟩⟩⟩
def rt8 : BT (List Row) := (.node 6 [⟨0, 0⟩, ⟨0, 0⟩, ⟨3, 3⟩, ⟨4, 4⟩, ⟨0, 0⟩, ⟨0, 0⟩, ⟨48, 48⟩, ⟨64, 64⟩, ⟨136, 136⟩] .nil .nil)
theorem rw8 : RowAt Try.prog 8 rt8 := qXn Try.func8 (by kernel_rfl)
def rt13 : BT (List Row) := (.node 6 [⟨0, 0⟩, ⟨0, 0⟩, ⟨3, 3⟩, ⟨4, 4⟩, ⟨0, 0⟩, ⟨0, 0⟩, ⟨48, 48⟩, ⟨64, 64⟩, ⟨136, 136⟩] .nil .nil)
theorem rw13 : RowAt Try.prog 13 rt13 := qXn Try.func13 (by kernel_rfl)
def rt16 : BT (List Row) := (.node 13 [⟨0, 0⟩, ⟨0, 0⟩, ⟨3, 3⟩, ⟨4, 4⟩, ⟨0, 0⟩, ⟨0, 0⟩, ⟨48, 48⟩, ⟨64, 64⟩, ⟨136, 136⟩, ⟨511, 3⟩, ⟨1023, 768⟩] .nil .nil)
theorem rw16 : RowAt Try.prog 16 rt16 := qXn Try.func16 (by kernel_rfl)
def rt17 : BT (List Row) := (.node 11 [⟨0, 0⟩, ⟨0, 0⟩, ⟨3, 3⟩, ⟨4, 4⟩, ⟨8, 8⟩, ⟨0, 0⟩, ⟨48, 48⟩, ⟨64, 64⟩, ⟨128, 128⟩, ⟨128, 128⟩, ⟨896, 896⟩, ⟨1152, 1152⟩, ⟨2176, 2176⟩, ⟨4224, 4096⟩, ⟨8192, 8192⟩, ⟨8192, 8192⟩, ⟨57344, 57344⟩, ⟨73728, 73728⟩, ⟨131072, 131072⟩, ⟨131072, 131072⟩, ⟨917504, 917504⟩, ⟨1179648, 1179648⟩, ⟨2228224, 2228224⟩, ⟨131072, 131072⟩, ⟨12713984, 12713984⟩, ⟨16916480, 16916480⟩, ⟨33693696, 33562624⟩, ⟨67108864, 67108864⟩, ⟨67108864, 67108864⟩, ⟨67108864, 67108864⟩, ⟨1006632960, 1006632960⟩, ⟨67108864, 67108864⟩, ⟨67108864, 67108864⟩, ⟨6509559808, 6509559808⟩, ⟨8657043456, 8657043456⟩, ⟨17246978048, 17246978048⟩, ⟨35500589056, 35500589056⟩, ⟨68786585600, 68786585600⟩, ⟨137506070528, 137506070528⟩, ⟨274877915136, 274877915136⟩] .nil .nil)
theorem rw17 : RowAt Try.prog 17 rt17 := qXn Try.func17 (by kernel_rfl)
def rt20 : BT (List Row) := (.node 6 [⟨0, 0⟩, ⟨0, 0⟩, ⟨3, 3⟩, ⟨4, 4⟩, ⟨0, 0⟩, ⟨0, 0⟩, ⟨48, 48⟩, ⟨64, 64⟩, ⟨136, 136⟩] .nil .nil)
theorem rw20 : RowAt Try.prog 20 rt20 := qXn Try.func20 (by kernel_rfl)
def rt26 : BT (List Row) := (.node 11 [⟨0, 0⟩, ⟨0, 0⟩, ⟨3, 3⟩, ⟨4, 4⟩, ⟨0, 0⟩, ⟨0, 0⟩, ⟨32, 32⟩, ⟨80, 80⟩, ⟨128, 128⟩, ⟨264, 264⟩] (.node 6 [⟨0, 0⟩, ⟨0, 0⟩, ⟨3, 3⟩, ⟨4, 4⟩, ⟨0, 0⟩, ⟨0, 0⟩, ⟨32, 32⟩, ⟨80, 80⟩, ⟨128, 128⟩, ⟨264, 264⟩] .nil .nil) .nil)
theorem rw26 : RowAt Try.prog 26 rt26 := qXn Try.func26 (by kernel_rfl)
def rt43 : BT (List Row) := (.node 8 [⟨0, 0⟩, ⟨0, 0⟩, ⟨2, 2⟩, ⟨4, 4⟩, ⟨8, 8⟩, ⟨16, 16⟩, ⟨32, 32⟩, ⟨0, 0⟩, ⟨128, 128⟩, ⟨256, 256⟩, ⟨512, 512⟩, ⟨1088, 1088⟩, ⟨0, 0⟩, ⟨4096, 4096⟩, ⟨10240, 10240⟩, ⟨16385, 16385⟩, ⟨65535, 32769⟩] .nil .nil)
theorem rw43 : RowAt Try.prog 43 rt43 := qXn Try.func43 (by kernel_rfl)
def rt45 : BT (List Row) := (.node 17 [⟨0, 0⟩, ⟨1, 1⟩, ⟨2, 2⟩, ⟨4, 4⟩, ⟨4, 4⟩, ⟨20, 20⟩, ⟨44, 44⟩, ⟨68, 68⟩, ⟨4, 4⟩, ⟨4, 4⟩, ⟨772, 772⟩, ⟨1028, 1028⟩, ⟨2180, 2180⟩, ⟨4100, 4100⟩, ⟨8196, 8196⟩] .nil .nil)
theorem rw45 : RowAt Try.prog 45 rt45 := qXn Try.func45 (by kernel_rfl)
def rt59 : BT (List Row) := (.node 6 [⟨0, 0⟩, ⟨0, 0⟩, ⟨0, 0⟩, ⟨0, 0⟩, ⟨8, 8⟩, ⟨0, 0⟩, ⟨0, 0⟩, ⟨64, 64⟩, ⟨160, 160⟩, ⟨256, 256⟩, ⟨0, 0⟩, ⟨0, 0⟩, ⟨3072, 3072⟩, ⟨4096, 4096⟩, ⟨9187, 3⟩, ⟨25571, 16896⟩, ⟨65535, 20⟩, ⟨131071, 73728⟩] (.node 4 [⟨0, 0⟩, ⟨0, 0⟩, ⟨3, 3⟩, ⟨4, 4⟩, ⟨8, 8⟩, ⟨8, 8⟩, ⟨56, 56⟩, ⟨72, 72⟩, ⟨8, 8⟩, ⟨8, 8⟩, ⟨520, 520⟩, ⟨1288, 1288⟩, ⟨2056, 2056⟩, ⟨4232, 4232⟩, ⟨8200, 8200⟩] .nil .nil) .nil)
theorem rw59 : RowAt Try.prog 59 rt59 := qXn Try.func59 (by kernel_rfl)
def rtB : RowT := (.node 20 rt20 (.node 16 rt16 (.node 13 rt13 (.node 8 rt8 .nil .nil) .nil) (.node 17 rt17 .nil .nil)) (.node 45 rt45 (.node 43 rt43 (.node 26 rt26 .nil .nil) .nil) (.node 59 rt59 .nil .nil)))
theorem rtB_ok : RtsOk Try.prog (rtsB rtB) := rtsB_ok ⟨rw20, ⟨rw16, ⟨rw13, ⟨rw8, trivial, trivial⟩, trivial⟩, ⟨rw17, trivial, trivial⟩⟩, ⟨rw45, ⟨rw43, ⟨rw26, trivial, trivial⟩, trivial⟩, ⟨rw59, trivial, trivial⟩⟩⟩

theorem own : ownKnob Try.prog.godebug = none := by kernel_rfl
theorem laidOut : laidOutB Try.prog = true := by kernel_rfl
theorem nogo : (Try.prog.funcs.all fun fn => fn.name != "runtime.NumGoroutine") = true := by kernel_rfl
theorem mixedOk : Try.prog.follows .mixedOrders = true := by kernel_rfl
/-- the types whose values are compared with no panic -/
noncomputable def seqB (t : TypeId) : Bool := !Try.prog.eqGuardType Try.prog.depth t && !Try.prog.stoodInHeld t
/-- the tables that the row lays, as rows that come in -/
def tabsL : List InD := []
/-- n: how deep a number may be without a name (0: none is named) -/
noncomputable def cxOf (n : Nat) : Cx :=
  { P := Try.prog, Γ := [], Φ := phiN, F := fN, lf := lfN, ins := [], tabs := tabsL, sh := n, und := undB tyB, inf := infB tyB, fn := fnB fuB, seq := seqB,
    undOk := undB_ok tyB_ok, infOk := fun _ _ h => BT.find_all tyB_ok h, fnOk := fun _ _ h => BT.find_all fuB_ok h,
    seqOk := fun t h => by unfold seqB at h; simpa using h }
theorem cxOf_ok (n : Nat) (m : Rc) : CxOk (m.cx (cxOf n)) :=
  ⟨mixedOk, fun f fn h => by
    have h1 := Array.all_eq_true.1 nogo
    obtain ⟨h2, h3⟩ := Array.getElem?_eq_some_iff.1 h
    have := h1 f h2
    have h4 : (Try.prog.funcs[f]'h2) = fn := h3
    rw [h4] at this
    simpa using this⟩
/-- the same, with what comes in -/
noncomputable def cxG (n : Nat) (Γ : List (Int × Int)) (ins : List InD) : Cx := { cxOf n with Γ := Γ, ins := ins ++ tabsL }
theorem tabsAll : (tabsL.all fun d => d.c.vb 0 && (d.n.vb 0 && d.cap.vb 0)) = true := by kernel_rfl
theorem tabsG (n : Nat) (Γ : List (Int × Int)) (ins : List InD) : TabsOk (cxG n Γ ins) := ⟨⟨ins, rfl⟩, fun d hd => by have := List.all_eq_true.1 tabsAll d hd; simp only [Bool.and_eq_true] at this; exact this⟩
theorem cxG_ok (n : Nat) (Γ : List (Int × Int)) (ins : List InD) : CxOk (cxG n Γ ins) :=
  ⟨mixedOk, fun f fn h => by
    have h1 := Array.all_eq_true.1 nogo
    obtain ⟨h2, h3⟩ := Array.getElem?_eq_some_iff.1 h
    have := h1 f h2
    have h4 : (Try.prog.funcs[f]'h2) = fn := h3
    rw [h4] at this
    simpa using this⟩
/-- a contract holds however much is named, and whatever else comes in -/
theorem rc_n {n k : Nat} {Γ : List (Int × Int)} {ins : List InD} {m : Rc} (h : RcOk (cxOf n) m) : RcOk (cxG k Γ ins) m :=
  fun ρ w hρ hc hp hr => h ρ w ⟨hρ.hi, hρ.hf, hρ.hv, hρ.hF, hρ.hP, hρ.hro⟩ hc hp hr
theorem rh_n {n k : Nat} {Γ : List (Int × Int)} {ins : List InD} {m : Rh} (h : RhOk (cxOf n) m) : RhOk (cxG k Γ ins) m :=
  fun ρ β w hρ hp hs => h ρ β w ⟨hρ.hi, hρ.hf, hρ.hv, hρ.hF, hρ.hP, hρ.hro⟩ hp hs
theorem mg {α : Type} {l : List α} {a : α} (i : Nat) (h : l[i]? = some a) : a ∈ l := List.mem_of_getElem? h
/-- the engine's runs -/
abbrev SMs := List (Int × Int) → List InD → Nat → SM
def SMsOk (sm : SMs) : Prop := ∀ Γ ins n, SmOk (cxG n Γ ins) (sm Γ ins n)
noncomputable def runC (sm : SMs) (Γ : List (Int × Int)) (ins : List InD) (n : Nat) : CF := execFn (cxG n Γ ins) (rtsB rtB) (sm Γ ins n) (fun _ _ => none) 40 30
theorem xok0 (cx : Cx) : XOk cx (fun _ _ => none) := fun _ _ _ _ _ _ _ h => by cases h
theorem runC_ok {sm : SMs} (h : SMsOk sm) (Γ : List (Int × Int)) (ins : List InD) (n : Nat) : qKw (cxG n Γ ins) (runC sm Γ ins n) := execFn_ok (cxG_ok n Γ ins) rtB_ok (h Γ ins n) (xok0 _) _
noncomputable def runG (sm : SMs) (lhs : LHS) (Γ : List (Int × Int)) (ins : List InD) (n : Nat) : CFT := execFnT (cxG n Γ ins) (rtsB rtB) (sm Γ ins n) (fun _ _ => none) lhs (runC sm Γ ins n) 40 30
theorem runG_ok {sm : SMs} (h : SMsOk sm) (lhs : LHS) (Γ : List (Int × Int)) (ins : List InD) (n : Nat) : qJy (cxG n Γ ins) (runG sm lhs Γ ins n) :=
  execFnT_ok (cxG_ok n Γ ins) rtB_ok (h Γ ins n) (xok0 _) (runC_ok h Γ ins n) _
noncomputable def runT (sm : SMs) (lhs : LHS) (m : Rc) (n : Nat) : CFT := runG sm lhs (bdsF m.ls) (qXv m.b m.c m.ls 0 0 0) n
theorem runT_ok {sm : SMs} (h : SMsOk sm) (lhs : LHS) (m : Rc) (n : Nat) : qJy (m.cx (cxOf n)) (runT sm lhs m n) := runG_ok h lhs _ _ n
noncomputable def runH (sm : SMs) (lhs : LHS) (m : Rk) (n : Nat) : CFT := runG sm lhs m.Γ m.ins n
theorem runH_ok {sm : SMs} (h : SMsOk sm) (lhs : LHS) (m : Rk) (n : Nat) : qJy (m.rh.cx (cxOf n)) (runH sm lhs m n) := runG_ok h lhs m.Γ m.ins n
/-! the parts of a contract's proof -/
noncomputable def fineR (n : Nat) (m : Rc) (t : TT (List E)) : Bool := TT.fine (m.cx (cxOf n)) 1000 [] t && (m.cx (cxOf n)).okB 1000 && SV.vbL 1000 m.args && TT.tidy (m.cx (cxOf n)) [] t
noncomputable def ranR (us : SMs) (lhs : LHS) (m : Rc) (n : Nat) (t : TT (List E)) : Bool := TT.beq (projL (m.pj (cxOf n)) (runT us lhs m n m.f m.args ⟨[], m.kn0⟩)) t
def statR (n : Nat) (m : Rc) (t : TT (List E)) (ρ : Env) : Prop := TT.hdP (m.cx (cxOf n)) (rlF ρ m.res) t ρ
theorem okR {us : SMs} {lhs : LHS} {m : Rc} {n : Nat} {t : TT (List E)} (hu : SMsOk us) (h1 : ranR us lhs m n t = true) (h2 : fineR n m t = true) (h3 : m.ok = true)
    (h : ∀ i v ro p, EnvOk (m.cx (cxOf n)) ⟨i, fN, v, ro, p⟩ → (∀ d ∈ qXv m.b m.c m.ls 0 0 0, d.n.ev ⟨i, fN, v, ro, p⟩ ≤ d.cap.ev ⟨i, fN, v, ro, p⟩) → (∀ e ∈ m.pre, e.evP ⟨i, fN, v, ro, p⟩ ≠ 0) → statR n m t ⟨i, fN, v, ro, p⟩) : RcOk (cxOf n) m :=
  rc_run (runT_ok hu lhs m n) h1 h2 h3 fun ρ hρ hcap hpre => by
    obtain ⟨i, f, v, ro, p⟩ := ρ
    have hf : f = fN := hρ.hF
    subst hf
    exact h i v ro p hρ hcap hpre
noncomputable def fineH (n : Nat) (m : Rk) (t : TT (List E)) : Bool := TT.fine (m.rh.cx (cxOf n)) 1000 [] t && (m.rh.cx (cxOf n)).okB 1000 && SV.vbL 1000 m.args && TT.tidy (m.rh.cx (cxOf n)) [] t
noncomputable def ranH (us : SMs) (lhs : LHS) (m : Rk) (n : Nat) (t : TT (List E)) : Bool := TT.beq (projL (m.pj (cxOf n)) (runH us lhs m n m.f m.args ⟨m.inb, m.kn0⟩)) t
def statH (n : Nat) (m : Rk) (t : TT (List E)) (ρ : Env) : Prop := TT.hdP (m.rh.cx (cxOf n)) (rsF ρ m.rs) t ρ
theorem okH {us : SMs} {lhs : LHS} {m : Rk} {n : Nat} {t : TT (List E)} (hu : SMsOk us) (h1 : ranH us lhs m n t = true) (h2 : fineH n m t = true) (h4 : blVb 1000 m.inb = true) (h3 : m.ok = true)
    (h : ∀ i v ro p, EnvOk (m.rh.cx (cxOf n)) ⟨i, fN, v, ro, p⟩ → (∀ e ∈ m.pre, e.evP ⟨i, fN, v, ro, p⟩ ≠ 0) → statH n m t ⟨i, fN, v, ro, p⟩) : RhOk (cxOf n) m.rh :=
  rk_run (runH_ok hu lhs m n) h1 h2 h4 h3 fun ρ hρ hpre => by
    obtain ⟨i, f, v, ro, p⟩ := ρ
    have hf : f = fN := hρ.hF
    subst hf
    exact h i v ro p hρ hpre
theorem den_row (ρ : Env) (β : Bt) (k z i j : Nat) : (SV.sl (.inp k) z (.c 0) (.v i) (some (.v j))).den ρ β = .slice (ρ.ro k).a (ρ.i i).toNat (ρ.i j).toNat := by
  simp only [SV.den, E.ev, qXo]
end Go.Proofs.Ytacchdmnhfkekaa
