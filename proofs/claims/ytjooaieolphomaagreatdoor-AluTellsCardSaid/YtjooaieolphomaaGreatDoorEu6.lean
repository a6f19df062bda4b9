/-
  Several parts in one file: the engine, or its laws.
-/
import Derived.Test.YtjooaieolphomaaGreatDoorEu4
import Derived.Test.YtjooaieolphomaaGreatDoorRows
import Derived.WalkKit
import Derived.ProofKit
import Derived.Lib.Walk
import Derived.Lib.Small
import Derived.Lib.Tables
import Derived.Test.YtjooaieolphomaaGreatDoorEu5

/-! The program's tables of types and of functions as trees. Printed by program. -/
section
namespace Go.Proofs.YtjooaieolphomaaGreatDoor
open Go.Eng
set_option maxRecDepth 100000
noncomputable def tyB : BT TypeInfo := (.node 44 Tryz.t44 (.node 22 Tryz.t22 (.node 11 Tryz.t11 (.node 5 Tryz.t5 (.node 2 Tryz.t2 (.node 1 Tryz.t1 (.node 0 Tryz.t0 .nil .nil) .nil) (.node 4 Tryz.t4 (.node 3 Tryz.t3 .nil .nil) .nil)) (.node 8 Tryz.t8 (.node 7 Tryz.t7 (.node 6 Tryz.t6 .nil .nil) .nil) (.node 10 Tryz.t10 (.node 9 Tryz.t9 .nil .nil) .nil))) (.node 17 Tryz.t17 (.node 14 Tryz.t14 (.node 13 Tryz.t13 (.node 12 Tryz.t12 .nil .nil) .nil) (.node 16 Tryz.t16 (.node 15 Tryz.t15 .nil .nil) .nil)) (.node 20 Tryz.t20 (.node 19 Tryz.t19 (.node 18 Tryz.t18 .nil .nil) .nil) (.node 21 Tryz.t21 .nil .nil)))) (.node 33 Tryz.t33 (.node 28 Tryz.t28 (.node 25 Tryz.t25 (.node 24 Tryz.t24 (.node 23 Tryz.t23 .nil .nil) .nil) (.node 27 Tryz.t27 (.node 26 Tryz.t26 .nil .nil) .nil)) (.node 31 Tryz.t31 (.node 30 Tryz.t30 (.node 29 Tryz.t29 .nil .nil) .nil) (.node 32 Tryz.t32 .nil .nil))) (.node 39 Tryz.t39 (.node 36 Tryz.t36 (.node 35 Tryz.t35 (.node 34 Tryz.t34 .nil .nil) .nil) (.node 38 Tryz.t38 (.node 37 Tryz.t37 .nil .nil) .nil)) (.node 42 Tryz.t42 (.node 41 Tryz.t41 (.node 40 Tryz.t40 .nil .nil) .nil) (.node 43 Tryz.t43 .nil .nil))))) (.node 67 Tryz.t67 (.node 56 Tryz.t56 (.node 50 Tryz.t50 (.node 47 Tryz.t47 (.node 46 Tryz.t46 (.node 45 Tryz.t45 .nil .nil) .nil) (.node 49 Tryz.t49 (.node 48 Tryz.t48 .nil .nil) .nil)) (.node 53 Tryz.t53 (.node 52 Tryz.t52 (.node 51 Tryz.t51 .nil .nil) .nil) (.node 55 Tryz.t55 (.node 54 Tryz.t54 .nil .nil) .nil))) (.node 62 Tryz.t62 (.node 59 Tryz.t59 (.node 58 Tryz.t58 (.node 57 Tryz.t57 .nil .nil) .nil) (.node 61 Tryz.t61 (.node 60 Tryz.t60 .nil .nil) .nil)) (.node 65 Tryz.t65 (.node 64 Tryz.t64 (.node 63 Tryz.t63 .nil .nil) .nil) (.node 66 Tryz.t66 .nil .nil)))) (.node 78 Tryz.t78 (.node 73 Tryz.t73 (.node 70 Tryz.t70 (.node 69 Tryz.t69 (.node 68 Tryz.t68 .nil .nil) .nil) (.node 72 Tryz.t72 (.node 71 Tryz.t71 .nil .nil) .nil)) (.node 76 Tryz.t76 (.node 75 Tryz.t75 (.node 74 Tryz.t74 .nil .nil) .nil) (.node 77 Tryz.t77 .nil .nil))) (.node 84 Tryz.t84 (.node 81 Tryz.t81 (.node 80 Tryz.t80 (.node 79 Tryz.t79 .nil .nil) .nil) (.node 83 Tryz.t83 (.node 82 Tryz.t82 .nil .nil) .nil)) (.node 87 Tryz.t87 (.node 86 Tryz.t86 (.node 85 Tryz.t85 .nil .nil) .nil) (.node 88 Tryz.t88 .nil .nil))))))
theorem tyB_ok : tyB.All fun i v => Tryz.prog.info? i = some v := ⟨Tryz.type44, ⟨Tryz.type22, ⟨Tryz.type11, ⟨Tryz.type5, ⟨Tryz.type2, ⟨Tryz.type1, ⟨Tryz.type0, trivial, trivial⟩, trivial⟩, ⟨Tryz.type4, ⟨Tryz.type3, trivial, trivial⟩, trivial⟩⟩, ⟨Tryz.type8, ⟨Tryz.type7, ⟨Tryz.type6, trivial, trivial⟩, trivial⟩, ⟨Tryz.type10, ⟨Tryz.type9, trivial, trivial⟩, trivial⟩⟩⟩, ⟨Tryz.type17, ⟨Tryz.type14, ⟨Tryz.type13, ⟨Tryz.type12, trivial, trivial⟩, trivial⟩, ⟨Tryz.type16, ⟨Tryz.type15, trivial, trivial⟩, trivial⟩⟩, ⟨Tryz.type20, ⟨Tryz.type19, ⟨Tryz.type18, trivial, trivial⟩, trivial⟩, ⟨Tryz.type21, trivial, trivial⟩⟩⟩⟩, ⟨Tryz.type33, ⟨Tryz.type28, ⟨Tryz.type25, ⟨Tryz.type24, ⟨Tryz.type23, trivial, trivial⟩, trivial⟩, ⟨Tryz.type27, ⟨Tryz.type26, trivial, trivial⟩, trivial⟩⟩, ⟨Tryz.type31, ⟨Tryz.type30, ⟨Tryz.type29, trivial, trivial⟩, trivial⟩, ⟨Tryz.type32, trivial, trivial⟩⟩⟩, ⟨Tryz.type39, ⟨Tryz.type36, ⟨Tryz.type35, ⟨Tryz.type34, trivial, trivial⟩, trivial⟩, ⟨Tryz.type38, ⟨Tryz.type37, trivial, trivial⟩, trivial⟩⟩, ⟨Tryz.type42, ⟨Tryz.type41, ⟨Tryz.type40, trivial, trivial⟩, trivial⟩, ⟨Tryz.type43, trivial, trivial⟩⟩⟩⟩⟩, ⟨Tryz.type67, ⟨Tryz.type56, ⟨Tryz.type50, ⟨Tryz.type47, ⟨Tryz.type46, ⟨Tryz.type45, trivial, trivial⟩, trivial⟩, ⟨Tryz.type49, ⟨Tryz.type48, trivial, trivial⟩, trivial⟩⟩, ⟨Tryz.type53, ⟨Tryz.type52, ⟨Tryz.type51, trivial, trivial⟩, trivial⟩, ⟨Tryz.type55, ⟨Tryz.type54, trivial, trivial⟩, trivial⟩⟩⟩, ⟨Tryz.type62, ⟨Tryz.type59, ⟨Tryz.type58, ⟨Tryz.type57, trivial, trivial⟩, trivial⟩, ⟨Tryz.type61, ⟨Tryz.type60, trivial, trivial⟩, trivial⟩⟩, ⟨Tryz.type65, ⟨Tryz.type64, ⟨Tryz.type63, trivial, trivial⟩, trivial⟩, ⟨Tryz.type66, trivial, trivial⟩⟩⟩⟩, ⟨Tryz.type78, ⟨Tryz.type73, ⟨Tryz.type70, ⟨Tryz.type69, ⟨Tryz.type68, trivial, trivial⟩, trivial⟩, ⟨Tryz.type72, ⟨Tryz.type71, trivial, trivial⟩, trivial⟩⟩, ⟨Tryz.type76, ⟨Tryz.type75, ⟨Tryz.type74, trivial, trivial⟩, trivial⟩, ⟨Tryz.type77, trivial, trivial⟩⟩⟩, ⟨Tryz.type84, ⟨Tryz.type81, ⟨Tryz.type80, ⟨Tryz.type79, trivial, trivial⟩, trivial⟩, ⟨Tryz.type83, ⟨Tryz.type82, trivial, trivial⟩, trivial⟩⟩, ⟨Tryz.type87, ⟨Tryz.type86, ⟨Tryz.type85, trivial, trivial⟩, trivial⟩, ⟨Tryz.type88, trivial, trivial⟩⟩⟩⟩⟩⟩
noncomputable def fuB : BT Func := (.node 62 Tryz.f62 (.node 31 Tryz.f31 (.node 15 Tryz.f15 (.node 7 Tryz.f7 (.node 3 Tryz.f3 (.node 1 Tryz.f1 (.node 0 Tryz.f0 .nil .nil) (.node 2 Tryz.f2 .nil .nil)) (.node 5 Tryz.f5 (.node 4 Tryz.f4 .nil .nil) (.node 6 Tryz.f6 .nil .nil))) (.node 11 Tryz.f11 (.node 9 Tryz.f9 (.node 8 Tryz.f8 .nil .nil) (.node 10 Tryz.f10 .nil .nil)) (.node 13 Tryz.f13 (.node 12 Tryz.f12 .nil .nil) (.node 14 Tryz.f14 .nil .nil)))) (.node 23 Tryz.f23 (.node 19 Tryz.f19 (.node 17 Tryz.f17 (.node 16 Tryz.f16 .nil .nil) (.node 18 Tryz.f18 .nil .nil)) (.node 21 Tryz.f21 (.node 20 Tryz.f20 .nil .nil) (.node 22 Tryz.f22 .nil .nil))) (.node 27 Tryz.f27 (.node 25 Tryz.f25 (.node 24 Tryz.f24 .nil .nil) (.node 26 Tryz.f26 .nil .nil)) (.node 29 Tryz.f29 (.node 28 Tryz.f28 .nil .nil) (.node 30 Tryz.f30 .nil .nil))))) (.node 47 Tryz.f47 (.node 39 Tryz.f39 (.node 35 Tryz.f35 (.node 33 Tryz.f33 (.node 32 Tryz.f32 .nil .nil) (.node 34 Tryz.f34 .nil .nil)) (.node 37 Tryz.f37 (.node 36 Tryz.f36 .nil .nil) (.node 38 Tryz.f38 .nil .nil))) (.node 43 Tryz.f43 (.node 41 Tryz.f41 (.node 40 Tryz.f40 .nil .nil) (.node 42 Tryz.f42 .nil .nil)) (.node 45 Tryz.f45 (.node 44 Tryz.f44 .nil .nil) (.node 46 Tryz.f46 .nil .nil)))) (.node 55 Tryz.f55 (.node 51 Tryz.f51 (.node 49 Tryz.f49 (.node 48 Tryz.f48 .nil .nil) (.node 50 Tryz.f50 .nil .nil)) (.node 53 Tryz.f53 (.node 52 Tryz.f52 .nil .nil) (.node 54 Tryz.f54 .nil .nil))) (.node 59 Tryz.f59 (.node 57 Tryz.f57 (.node 56 Tryz.f56 .nil .nil) (.node 58 Tryz.f58 .nil .nil)) (.node 61 Tryz.f61 (.node 60 Tryz.f60 .nil .nil) .nil))))) (.node 94 Tryz.f94 (.node 78 Tryz.f78 (.node 70 Tryz.f70 (.node 66 Tryz.f66 (.node 64 Tryz.f64 (.node 63 Tryz.f63 .nil .nil) (.node 65 Tryz.f65 .nil .nil)) (.node 68 Tryz.f68 (.node 67 Tryz.f67 .nil .nil) (.node 69 Tryz.f69 .nil .nil))) (.node 74 Tryz.f74 (.node 72 Tryz.f72 (.node 71 Tryz.f71 .nil .nil) (.node 73 Tryz.f73 .nil .nil)) (.node 76 Tryz.f76 (.node 75 Tryz.f75 .nil .nil) (.node 77 Tryz.f77 .nil .nil)))) (.node 86 Tryz.f86 (.node 82 Tryz.f82 (.node 80 Tryz.f80 (.node 79 Tryz.f79 .nil .nil) (.node 81 Tryz.f81 .nil .nil)) (.node 84 Tryz.f84 (.node 83 Tryz.f83 .nil .nil) (.node 85 Tryz.f85 .nil .nil))) (.node 90 Tryz.f90 (.node 88 Tryz.f88 (.node 87 Tryz.f87 .nil .nil) (.node 89 Tryz.f89 .nil .nil)) (.node 92 Tryz.f92 (.node 91 Tryz.f91 .nil .nil) (.node 93 Tryz.f93 .nil .nil))))) (.node 110 Tryz.f110 (.node 102 Tryz.f102 (.node 98 Tryz.f98 (.node 96 Tryz.f96 (.node 95 Tryz.f95 .nil .nil) (.node 97 Tryz.f97 .nil .nil)) (.node 100 Tryz.f100 (.node 99 Tryz.f99 .nil .nil) (.node 101 Tryz.f101 .nil .nil))) (.node 106 Tryz.f106 (.node 104 Tryz.f104 (.node 103 Tryz.f103 .nil .nil) (.node 105 Tryz.f105 .nil .nil)) (.node 108 Tryz.f108 (.node 107 Tryz.f107 .nil .nil) (.node 109 Tryz.f109 .nil .nil)))) (.node 118 Tryz.f118 (.node 114 Tryz.f114 (.node 112 Tryz.f112 (.node 111 Tryz.f111 .nil .nil) (.node 113 Tryz.f113 .nil .nil)) (.node 116 Tryz.f116 (.node 115 Tryz.f115 .nil .nil) (.node 117 Tryz.f117 .nil .nil))) (.node 122 Tryz.f122 (.node 120 Tryz.f120 (.node 119 Tryz.f119 .nil .nil) (.node 121 Tryz.f121 .nil .nil)) (.node 124 Tryz.f124 (.node 123 Tryz.f123 .nil .nil) .nil))))))
theorem fuB_ok : fuB.All fun i v => Tryz.prog.funcs[i]? = some v := ⟨Tryz.func62, ⟨Tryz.func31, ⟨Tryz.func15, ⟨Tryz.func7, ⟨Tryz.func3, ⟨Tryz.func1, ⟨Tryz.func0, trivial, trivial⟩, ⟨Tryz.func2, trivial, trivial⟩⟩, ⟨Tryz.func5, ⟨Tryz.func4, trivial, trivial⟩, ⟨Tryz.func6, trivial, trivial⟩⟩⟩, ⟨Tryz.func11, ⟨Tryz.func9, ⟨Tryz.func8, trivial, trivial⟩, ⟨Tryz.func10, trivial, trivial⟩⟩, ⟨Tryz.func13, ⟨Tryz.func12, trivial, trivial⟩, ⟨Tryz.func14, trivial, trivial⟩⟩⟩⟩, ⟨Tryz.func23, ⟨Tryz.func19, ⟨Tryz.func17, ⟨Tryz.func16, trivial, trivial⟩, ⟨Tryz.func18, trivial, trivial⟩⟩, ⟨Tryz.func21, ⟨Tryz.func20, trivial, trivial⟩, ⟨Tryz.func22, trivial, trivial⟩⟩⟩, ⟨Tryz.func27, ⟨Tryz.func25, ⟨Tryz.func24, trivial, trivial⟩, ⟨Tryz.func26, trivial, trivial⟩⟩, ⟨Tryz.func29, ⟨Tryz.func28, trivial, trivial⟩, ⟨Tryz.func30, trivial, trivial⟩⟩⟩⟩⟩, ⟨Tryz.func47, ⟨Tryz.func39, ⟨Tryz.func35, ⟨Tryz.func33, ⟨Tryz.func32, trivial, trivial⟩, ⟨Tryz.func34, trivial, trivial⟩⟩, ⟨Tryz.func37, ⟨Tryz.func36, trivial, trivial⟩, ⟨Tryz.func38, trivial, trivial⟩⟩⟩, ⟨Tryz.func43, ⟨Tryz.func41, ⟨Tryz.func40, trivial, trivial⟩, ⟨Tryz.func42, trivial, trivial⟩⟩, ⟨Tryz.func45, ⟨Tryz.func44, trivial, trivial⟩, ⟨Tryz.func46, trivial, trivial⟩⟩⟩⟩, ⟨Tryz.func55, ⟨Tryz.func51, ⟨Tryz.func49, ⟨Tryz.func48, trivial, trivial⟩, ⟨Tryz.func50, trivial, trivial⟩⟩, ⟨Tryz.func53, ⟨Tryz.func52, trivial, trivial⟩, ⟨Tryz.func54, trivial, trivial⟩⟩⟩, ⟨Tryz.func59, ⟨Tryz.func57, ⟨Tryz.func56, trivial, trivial⟩, ⟨Tryz.func58, trivial, trivial⟩⟩, ⟨Tryz.func61, ⟨Tryz.func60, trivial, trivial⟩, trivial⟩⟩⟩⟩⟩, ⟨Tryz.func94, ⟨Tryz.func78, ⟨Tryz.func70, ⟨Tryz.func66, ⟨Tryz.func64, ⟨Tryz.func63, trivial, trivial⟩, ⟨Tryz.func65, trivial, trivial⟩⟩, ⟨Tryz.func68, ⟨Tryz.func67, trivial, trivial⟩, ⟨Tryz.func69, trivial, trivial⟩⟩⟩, ⟨Tryz.func74, ⟨Tryz.func72, ⟨Tryz.func71, trivial, trivial⟩, ⟨Tryz.func73, trivial, trivial⟩⟩, ⟨Tryz.func76, ⟨Tryz.func75, trivial, trivial⟩, ⟨Tryz.func77, trivial, trivial⟩⟩⟩⟩, ⟨Tryz.func86, ⟨Tryz.func82, ⟨Tryz.func80, ⟨Tryz.func79, trivial, trivial⟩, ⟨Tryz.func81, trivial, trivial⟩⟩, ⟨Tryz.func84, ⟨Tryz.func83, trivial, trivial⟩, ⟨Tryz.func85, trivial, trivial⟩⟩⟩, ⟨Tryz.func90, ⟨Tryz.func88, ⟨Tryz.func87, trivial, trivial⟩, ⟨Tryz.func89, trivial, trivial⟩⟩, ⟨Tryz.func92, ⟨Tryz.func91, trivial, trivial⟩, ⟨Tryz.func93, trivial, trivial⟩⟩⟩⟩⟩, ⟨Tryz.func110, ⟨Tryz.func102, ⟨Tryz.func98, ⟨Tryz.func96, ⟨Tryz.func95, trivial, trivial⟩, ⟨Tryz.func97, trivial, trivial⟩⟩, ⟨Tryz.func100, ⟨Tryz.func99, trivial, trivial⟩, ⟨Tryz.func101, trivial, trivial⟩⟩⟩, ⟨Tryz.func106, ⟨Tryz.func104, ⟨Tryz.func103, trivial, trivial⟩, ⟨Tryz.func105, trivial, trivial⟩⟩, ⟨Tryz.func108, ⟨Tryz.func107, trivial, trivial⟩, ⟨Tryz.func109, trivial, trivial⟩⟩⟩⟩, ⟨Tryz.func118, ⟨Tryz.func114, ⟨Tryz.func112, ⟨Tryz.func111, trivial, trivial⟩, ⟨Tryz.func113, trivial, trivial⟩⟩, ⟨Tryz.func116, ⟨Tryz.func115, trivial, trivial⟩, ⟨Tryz.func117, trivial, trivial⟩⟩⟩, ⟨Tryz.func122, ⟨Tryz.func120, ⟨Tryz.func119, trivial, trivial⟩, ⟨Tryz.func121, trivial, trivial⟩⟩, ⟨Tryz.func124, ⟨Tryz.func123, trivial, trivial⟩, trivial⟩⟩⟩⟩⟩⟩
end Go.Proofs.YtjooaieolphomaaGreatDoor
end

/-! The tables of all regions that draw their order, reckoned ahead. Printed by program. -/
section
namespace Go.Proofs.YtjooaieolphomaaGreatDoor
open Go Go.Eng
def rt51 : BT (List Row) := (.node 10 [⟨0, 0⟩, ⟨0, 0⟩, ⟨2, 2⟩, ⟨4, 4⟩, ⟨0, 0⟩, ⟨16, 16⟩, ⟨32, 32⟩, ⟨72, 72⟩, ⟨0, 0⟩, ⟨256, 256⟩, ⟨512, 512⟩, ⟨0, 0⟩, ⟨2048, 2048⟩, ⟨4096, 4096⟩, ⟨9216, 9216⟩, ⟨16512, 16512⟩, ⟨65535, 1⟩, ⟨131071, 98304⟩] (.node 8 [⟨0, 0⟩, ⟨0, 0⟩, ⟨2, 2⟩, ⟨4, 4⟩, ⟨0, 0⟩, ⟨16, 16⟩, ⟨32, 32⟩, ⟨72, 72⟩, ⟨255, 1⟩, ⟨511, 384⟩] (.node 6 [⟨0, 0⟩, ⟨0, 0⟩, ⟨2, 2⟩, ⟨4, 4⟩, ⟨0, 0⟩, ⟨16, 16⟩, ⟨32, 32⟩, ⟨64, 64⟩, ⟨136, 136⟩, ⟨511, 1⟩, ⟨1023, 768⟩] .nil .nil) .nil) (.node 12 [⟨0, 0⟩, ⟨0, 0⟩, ⟨2, 2⟩, ⟨4, 4⟩, ⟨0, 0⟩, ⟨16, 16⟩, ⟨32, 32⟩, ⟨72, 72⟩, ⟨128, 128⟩, ⟨511, 1⟩, ⟨1023, 768⟩] .nil .nil))
theorem rw51 : RowAt Tryz.prog 51 rt51 := rowAt_of Tryz.func51 (by kernel_rfl)
def rt54 : BT (List Row) := (.node 6 [⟨0, 0⟩, ⟨0, 0⟩, ⟨2, 2⟩, ⟨5, 5⟩, ⟨8, 8⟩, ⟨0, 0⟩, ⟨32, 32⟩, ⟨64, 64⟩, ⟨255, 16⟩, ⟨511, 384⟩] .nil .nil)
theorem rw54 : RowAt Tryz.prog 54 rt54 := rowAt_of Tryz.func54 (by kernel_rfl)
def rtB : RowT := (.node 54 rt54 (.node 51 rt51 .nil .nil) .nil)
theorem rtB_ok : RtsOk Tryz.prog (rtsB rtB) := rtsB_ok ⟨rw54, ⟨rw51, trivial, trivial⟩, trivial⟩
end Go.Proofs.YtjooaieolphomaaGreatDoor
end

/-! The engine (with loops) at this seat's program: what it asks of a program. -/
section
set_option linter.unusedVariables false
set_option linter.unusedSimpArgs false
namespace Go.Proofs.YtjooaieolphomaaGreatDoor
open Go.Eng Go.RowKit

theorem nogo : (Tryz.prog.funcs.all fun fn => fn.name != "runtime.NumGoroutine") = true := by kernel_rfl
theorem mixedOk : Tryz.prog.follows .mixedOrders = true := by kernel_rfl

set_option maxRecDepth 100000 in
/-- n: how deep a number may be without a name (0: none is named) -/
noncomputable def cxOf (n : Nat) (l : List (Int × Int)) (ins : List InD) : Cx :=
  { P := Tryz.prog, Γ := l, Φ := phiN, F := fN, lf := lfN, ins := ins, sh := n, und := undB tyB, inf := infB tyB, fn := fnB fuB,
    undOk := undB_ok tyB_ok, infOk := fun _ _ h => BT.find_all tyB_ok h, fnOk := fun _ _ h => BT.find_all fuB_ok h }
set_option maxRecDepth 100000 in
theorem cxOf_ok (n : Nat) (l : List (Int × Int)) (ins : List InD) : CxOk (cxOf n l ins) :=
  ⟨mixedOk, fun f fn h => by
    have h1 := Array.all_eq_true.1 nogo
    obtain ⟨h2, h3⟩ := Array.getElem?_eq_some_iff.1 h
    have := h1 f h2
    have h4 : (Tryz.prog.funcs[f]'h2) = fn := h3
    rw [h4] at this
    simpa using this⟩

theorem list1 {l : List Int} (h : l.length = 1) : ∃ a, l = [a] := by
  match l, h with
  | [a], _ => exact ⟨a, rfl⟩
theorem list2 {l : List Int} (h : l.length = 2) : ∃ a b, l = [a, b] := by
  match l, h with
  | [a, b], _ => exact ⟨a, b, rfl⟩
theorem list3 {l : List Int} (h : l.length = 3) : ∃ a b c, l = [a, b, c] := by
  match l, h with
  | [a, b, c], _ => exact ⟨a, b, c, rfl⟩
theorem list4 {l : List Int} (h : l.length = 4) : ∃ a b c d, l = [a, b, c, d] := by
  match l, h with
  | [a, b, c, d], _ => exact ⟨a, b, c, d, rfl⟩

/-- a template holds however much is named, and whatever comes in -/
theorem tmpl_n {n m : Nat} {l l' : List (Int × Int)} {ins ins' : List InD} {f : FuncId} {rc : Option TypeId} {ps : List SV} {res : SV} (h : TmplOk (cxOf n l ins) f rc ps res) : TmplOk (cxOf m l' ins') f rc ps res :=
  fun ρ w hρ hb => h ρ w ⟨hρ.hi, hρ.hf, hρ.hv, hρ.hF, hρ.hro⟩ hb
theorem tree_n {n m : Nat} {l l' : List (Int × Int)} {ins ins' : List InD} {x : Sm} (h : TreeOk (cxOf n l ins) x) : TreeOk (cxOf m l' ins') x :=
  fun ρ w v hρ hb hv => h ρ w v ⟨hρ.hi, hρ.hf, hρ.hv, hρ.hF, hρ.hro⟩ hb hv
/-- the engine's runs -/
abbrev SMs := Nat → List (Int × Int) → List InD → SM
def SMsOk (sm : SMs) : Prop := ∀ n l ins, SmOk (cxOf n l ins) (sm n l ins)
noncomputable def runC (sm : SMs) (n : Nat) (l : List (Int × Int)) (ins : List InD) : CF := execFn (cxOf n l ins) (rtsB rtB) (sm n l ins) (fun _ _ => none) 40 30
theorem xok0 (cx : Cx) : XOk cx (fun _ _ => none) := fun _ _ _ _ _ _ _ h => by cases h
theorem runC_ok {sm : SMs} (h : SMsOk sm) (n : Nat) (l : List (Int × Int)) (ins : List InD) : CallOk (cxOf n l ins) (runC sm n l ins) := execFn_ok (cxOf_ok n l ins) rtB_ok (h n l ins) (xok0 _) _
noncomputable def runT (sm : SMs) (lhs : LHS) (n : Nat) (l : List (Int × Int)) (ins : List InD) : CFT := execFnT (cxOf n l ins) (rtsB rtB) (sm n l ins) (fun _ _ => none) lhs (runC sm n l ins) 40 30
theorem runT_ok {sm : SMs} (h : SMsOk sm) (lhs : LHS) (n : Nat) (l : List (Int × Int)) (ins : List InD) : CallOkT (cxOf n l ins) (runT sm lhs n l ins) :=
  execFnT_ok (cxOf_ok n l ins) rtB_ok (h n l ins) (xok0 _) (runC_ok h n l ins) _
end Go.Proofs.YtjooaieolphomaaGreatDoor
end

/-! The contracts of math/bits.Len32 and Len64. -/
section
set_option linter.unusedVariables false
set_option linter.unusedSimpArgs false
namespace Go.Proofs.YtjooaieolphomaaGreatDoor
open Go.Eng Go.RowKit

theorem tab8 (i : Nat) (h : i < Lib.len8tab.size) : (((Lib.len8tab[i]'h).toNat : Nat) : Int) = (Lib.bitLen i : Int) ∧ (Lib.bitLen i : Int) ≤ 8 := by
  have hs := Lib.len8tab_size
  have h1 := Lib.len8_of (i : Int) (by omega) (by omega)
  have h2 := Lib.bitLen_le8' (i : Int) (by omega) (by omega)
  rw [Int.toNat_natCast] at h1 h2
  refine ⟨?_, by omega⟩
  rw [← h1]
  simp [Lib.len8, h]

theorem l24 (x : Int) (h0 : 0 ≤ x) (h1 : x ≤ 4294967295) (h2 : 16777216 ≤ x) (h : (x / 65536 / 256).toNat < Lib.len8tab.size) : wrap64 (24 + wrap64 (((Lib.len8tab[(x / 65536 / 256).toNat]'h).toNat : Nat) : Int)) = (Lib.bitLen x.toNat : Int) := by
  obtain ⟨t1, t2⟩ := tab8 (x / 65536 / 256).toNat h
  rw [t1]
  have e : (x / 65536 / 256).toNat = x.toNat / 16777216 := by omega
  have s := Lib.bitLen_shift24 x.toNat (by omega) (by omega)
  rw [e] at t2 ⊢
  rw [s]
  generalize Lib.bitLen (x.toNat / 16777216) = m at t2
  clear e s t1 h h0 h1 h2
  simp only [wrap64]
  omega

theorem l16 (x : Int) (h0 : 0 ≤ x) (h1 : x ≤ 4294967295) (h2 : 65536 ≤ x) (h : (x / 65536).toNat < Lib.len8tab.size) : wrap64 (16 + wrap64 (((Lib.len8tab[(x / 65536).toNat]'h).toNat : Nat) : Int)) = (Lib.bitLen x.toNat : Int) := by
  obtain ⟨t1, t2⟩ := tab8 (x / 65536).toNat h
  rw [t1]
  have e : (x / 65536).toNat = x.toNat / 65536 := by omega
  have s := Lib.bitLen_shift16 x.toNat (by omega) (by omega)
  rw [e] at t2 ⊢
  rw [s]
  generalize Lib.bitLen (x.toNat / 65536) = m at t2
  clear e s t1 h h0 h1 h2
  simp only [wrap64]
  omega

theorem l8 (x : Int) (h0 : 0 ≤ x) (h1 : x ≤ 4294967295) (h2 : 256 ≤ x) (h : (x / 256).toNat < Lib.len8tab.size) : wrap64 (8 + wrap64 (((Lib.len8tab[(x / 256).toNat]'h).toNat : Nat) : Int)) = (Lib.bitLen x.toNat : Int) := by
  obtain ⟨t1, t2⟩ := tab8 (x / 256).toNat h
  rw [t1]
  have e : (x / 256).toNat = x.toNat / 256 := by omega
  have s := Lib.bitLen_shift8 x.toNat (by omega) (by omega)
  rw [e] at t2 ⊢
  rw [s]
  generalize Lib.bitLen (x.toNat / 256) = m at t2
  clear e s t1 h h0 h1 h2
  simp only [wrap64]
  omega

theorem l0 (x : Int) (h0 : 0 ≤ x) (h1 : x ≤ 4294967295) (h2 : 0 ≤ x) (h : x.toNat < Lib.len8tab.size) : wrap64 (wrap64 (((Lib.len8tab[x.toNat]'h).toNat : Nat) : Int)) = (Lib.bitLen x.toNat : Int) := by
  obtain ⟨t1, t2⟩ := tab8 x.toNat h
  rw [t1]
  generalize Lib.bitLen x.toNat = m at t2
  clear t1 h h0 h1 h2
  simp only [wrap64]
  omega

set_option maxHeartbeats 4000000 in
set_option maxRecDepth 100000 in
theorem len32 (x : Int) (w : World) (h0 : 0 ≤ x) (h1 : x ≤ 4294967295) :
    Calls Tryz.prog 104 #[.int .u32 x] w fun e w' => e = .returned (.int .i64 (Lib.bitLen x.toNat)) ∧ w' = w := by
  have hs := Lib.len8tab_size
  go_enter Tryz.func104, Tryz.ntmps104
  go_wp2
  all_goals first
    | (exfalso; omega)
    | skip
  all_goals (go_ret; refine ⟨congrArg Ending.returned (congrArg (Value.int IntKind.i64) ?_), rfl⟩)
  all_goals first
    | exact l24 x h0 h1 (by omega) _
    | exact l16 x h0 h1 (by omega) _
    | exact l8 x h0 h1 (by omega) _
    | exact l0 x h0 h1 (by omega) _

theorem k56 (x : Int) (h0 : 0 ≤ x) (h1 : x ≤ 18446744073709551615) (h2 : 72057594037927936 ≤ x) (h : (x / 4294967296 / 65536 / 256).toNat < Lib.len8tab.size) (hb : x / 4294967296 / 65536 / 256 ≤ 255) : wrap64 (56 + wrap64 (((Lib.len8tab[(x / 4294967296 / 65536 / 256).toNat]'h).toNat : Nat) : Int)) = (Lib.bitLen x.toNat : Int) := by
  obtain ⟨t1, t2⟩ := tab8 (x / 4294967296 / 65536 / 256).toNat h
  rw [t1]
  have e : (x / 4294967296 / 65536 / 256).toNat = x.toNat / 72057594037927936 := by omega
  have s := Lib.bitLen_shift 56 x.toNat (by omega) (by omega)
  rw [show (2 : Nat) ^ 56 = 72057594037927936 from rfl] at s
  rw [e] at t2 ⊢
  rw [s]
  generalize Lib.bitLen (x.toNat / 72057594037927936) = m at t2
  clear e s t1 h h0 h1 h2
  simp only [wrap64]
  omega

theorem k48 (x : Int) (h0 : 0 ≤ x) (h1 : x ≤ 18446744073709551615) (h2 : 281474976710656 ≤ x) (h : (x / 4294967296 / 65536).toNat < Lib.len8tab.size) (hb : x / 4294967296 / 65536 ≤ 255) : wrap64 (48 + wrap64 (((Lib.len8tab[(x / 4294967296 / 65536).toNat]'h).toNat : Nat) : Int)) = (Lib.bitLen x.toNat : Int) := by
  obtain ⟨t1, t2⟩ := tab8 (x / 4294967296 / 65536).toNat h
  rw [t1]
  have e : (x / 4294967296 / 65536).toNat = x.toNat / 281474976710656 := by omega
  have s := Lib.bitLen_shift 48 x.toNat (by omega) (by omega)
  rw [show (2 : Nat) ^ 48 = 281474976710656 from rfl] at s
  rw [e] at t2 ⊢
  rw [s]
  generalize Lib.bitLen (x.toNat / 281474976710656) = m at t2
  clear e s t1 h h0 h1 h2
  simp only [wrap64]
  omega

theorem k40 (x : Int) (h0 : 0 ≤ x) (h1 : x ≤ 18446744073709551615) (h2 : 1099511627776 ≤ x) (h : (x / 4294967296 / 256).toNat < Lib.len8tab.size) (hb : x / 4294967296 / 256 ≤ 255) : wrap64 (40 + wrap64 (((Lib.len8tab[(x / 4294967296 / 256).toNat]'h).toNat : Nat) : Int)) = (Lib.bitLen x.toNat : Int) := by
  obtain ⟨t1, t2⟩ := tab8 (x / 4294967296 / 256).toNat h
  rw [t1]
  have e : (x / 4294967296 / 256).toNat = x.toNat / 1099511627776 := by omega
  have s := Lib.bitLen_shift 40 x.toNat (by omega) (by omega)
  rw [show (2 : Nat) ^ 40 = 1099511627776 from rfl] at s
  rw [e] at t2 ⊢
  rw [s]
  generalize Lib.bitLen (x.toNat / 1099511627776) = m at t2
  clear e s t1 h h0 h1 h2
  simp only [wrap64]
  omega

theorem k32 (x : Int) (h0 : 0 ≤ x) (h1 : x ≤ 18446744073709551615) (h2 : 4294967296 ≤ x) (h : (x / 4294967296).toNat < Lib.len8tab.size) (hb : x / 4294967296 ≤ 255) : wrap64 (32 + wrap64 (((Lib.len8tab[(x / 4294967296).toNat]'h).toNat : Nat) : Int)) = (Lib.bitLen x.toNat : Int) := by
  obtain ⟨t1, t2⟩ := tab8 (x / 4294967296).toNat h
  rw [t1]
  have e : (x / 4294967296).toNat = x.toNat / 4294967296 := by omega
  have s := Lib.bitLen_shift 32 x.toNat (by omega) (by omega)
  rw [show (2 : Nat) ^ 32 = 4294967296 from rfl] at s
  rw [e] at t2 ⊢
  rw [s]
  generalize Lib.bitLen (x.toNat / 4294967296) = m at t2
  clear e s t1 h h0 h1 h2
  simp only [wrap64]
  omega

theorem k24 (x : Int) (h0 : 0 ≤ x) (h1 : x ≤ 18446744073709551615) (h2 : 16777216 ≤ x) (h : (x / 65536 / 256).toNat < Lib.len8tab.size) (hb : x / 65536 / 256 ≤ 255) : wrap64 (24 + wrap64 (((Lib.len8tab[(x / 65536 / 256).toNat]'h).toNat : Nat) : Int)) = (Lib.bitLen x.toNat : Int) := by
  obtain ⟨t1, t2⟩ := tab8 (x / 65536 / 256).toNat h
  rw [t1]
  have e : (x / 65536 / 256).toNat = x.toNat / 16777216 := by omega
  have s := Lib.bitLen_shift 24 x.toNat (by omega) (by omega)
  rw [show (2 : Nat) ^ 24 = 16777216 from rfl] at s
  rw [e] at t2 ⊢
  rw [s]
  generalize Lib.bitLen (x.toNat / 16777216) = m at t2
  clear e s t1 h h0 h1 h2
  simp only [wrap64]
  omega

theorem k16 (x : Int) (h0 : 0 ≤ x) (h1 : x ≤ 18446744073709551615) (h2 : 65536 ≤ x) (h : (x / 65536).toNat < Lib.len8tab.size) (hb : x / 65536 ≤ 255) : wrap64 (16 + wrap64 (((Lib.len8tab[(x / 65536).toNat]'h).toNat : Nat) : Int)) = (Lib.bitLen x.toNat : Int) := by
  obtain ⟨t1, t2⟩ := tab8 (x / 65536).toNat h
  rw [t1]
  have e : (x / 65536).toNat = x.toNat / 65536 := by omega
  have s := Lib.bitLen_shift 16 x.toNat (by omega) (by omega)
  rw [show (2 : Nat) ^ 16 = 65536 from rfl] at s
  rw [e] at t2 ⊢
  rw [s]
  generalize Lib.bitLen (x.toNat / 65536) = m at t2
  clear e s t1 h h0 h1 h2
  simp only [wrap64]
  omega

theorem k8 (x : Int) (h0 : 0 ≤ x) (h1 : x ≤ 18446744073709551615) (h2 : 256 ≤ x) (h : (x / 256).toNat < Lib.len8tab.size) (hb : x / 256 ≤ 255) : wrap64 (8 + wrap64 (((Lib.len8tab[(x / 256).toNat]'h).toNat : Nat) : Int)) = (Lib.bitLen x.toNat : Int) := by
  obtain ⟨t1, t2⟩ := tab8 (x / 256).toNat h
  rw [t1]
  have e : (x / 256).toNat = x.toNat / 256 := by omega
  have s := Lib.bitLen_shift 8 x.toNat (by omega) (by omega)
  rw [show (2 : Nat) ^ 8 = 256 from rfl] at s
  rw [e] at t2 ⊢
  rw [s]
  generalize Lib.bitLen (x.toNat / 256) = m at t2
  clear e s t1 h h0 h1 h2
  simp only [wrap64]
  omega

theorem k0 (x : Int) (h0 : 0 ≤ x) (h1 : x ≤ 18446744073709551615) (h : x.toNat < Lib.len8tab.size) (hb : x ≤ 255) : wrap64 (wrap64 (((Lib.len8tab[x.toNat]'h).toNat : Nat) : Int)) = (Lib.bitLen x.toNat : Int) := by
  obtain ⟨t1, t2⟩ := tab8 x.toNat h
  rw [t1]
  generalize Lib.bitLen x.toNat = m at t2
  clear t1 h h0 h1
  simp only [wrap64]
  omega

set_option maxHeartbeats 8000000 in
set_option maxRecDepth 100000 in
theorem len64 (x : Int) (w : World) (h0 : 0 ≤ x) (h1 : x ≤ 18446744073709551615) :
    Calls Tryz.prog 23 #[.int .u64 x] w fun e w' => e = .returned (.int .i64 (Lib.bitLen x.toNat)) ∧ w' = w := by
  have hs := Lib.len8tab_size
  go_enter Tryz.func23, Tryz.ntmps23
  go_wp2
  all_goals first
    | (exfalso; omega)
    | skip
  all_goals (go_ret; refine ⟨congrArg Ending.returned (congrArg (Value.int IntKind.i64) ?_), rfl⟩)
  all_goals first
    | exact k56 x h0 h1 (by omega) _ (by omega)
    | exact k48 x h0 h1 (by omega) _ (by omega)
    | exact k40 x h0 h1 (by omega) _ (by omega)
    | exact k32 x h0 h1 (by omega) _ (by omega)
    | exact k24 x h0 h1 (by omega) _ (by omega)
    | exact k16 x h0 h1 (by omega) _ (by omega)
    | exact k8 x h0 h1 (by omega) _ (by omega)
    | exact k0 x h0 h1 _ (by omega)

theorem blank_ok {cx : Cx} : ToldOk cx [] := told_nil cx
noncomputable def toldB (n : Nat) (l : List (Int × Int)) (ins : List InD) : Eng.Told := [(104, gLen (cxOf n l ins)), (23, gLen64 (cxOf n l ins))]
theorem toldB_ok (n : Nat) (l : List (Int × Int)) (ins : List InD) : ToldOk (cxOf n l ins) (toldB n l ins) := told_cons (gLen_ok rfl len32) (told_cons (gLen64_ok rfl len64) (told_nil _))
noncomputable def smB : SMs := fun n l ins => smOf (toldB n l ins)
theorem smB_ok : SMsOk smB := fun n l ins => smOf_ok (toldB_ok n l ins)
end Go.Proofs.YtjooaieolphomaaGreatDoor
end

/-! Templates of functions of numbers, group F, each by one run of the engine. Printed by program. -/
section
set_option linter.unusedVariables false
set_option linter.unusedSimpArgs false
namespace Go.Proofs.YtjooaieolphomaaGreatDoor
open Go.Eng Go.RowKit
def tmsF : List Tm := [
  ⟨89, .none, [.int .i32 (.v 0)], (.int .i64 (.w .u32 (.v 0)))⟩,
  ⟨48, .none, [.int .i64 (.v 0)], (.int .i32 (.w .i32 (.v 0)))⟩,
  ⟨83, .none, [.int .i64 (.v 0)], (.int .i32 (.b .min .i64 (.b .max .i64 (.v 0) (.c (-2147483648))) (.c 2147483647)))⟩]
theorem tmF0 (n : Nat) (l : List (Int × Int)) (ins : List InD) : TmplOk (cxOf n l ins) 89 .none [.int .i32 (.v 0)] (.int .i64 (.w .u32 (.v 0))) :=
  tmpl_n (n := 0) (tmpl_as (tmpl_one (cx := cxOf 0 l []) (res := (.int .i64 (.ite (.b .lt .i64 (.b .rem .i64 (.v 0) (.c 4294967296)) (.c 0)) (.b .padd .i64 (.b .rem .i64 (.v 0) (.c 4294967296)) (.c 4294967296)) (.b .rem .i64 (.v 0) (.c 4294967296))))) (runC_ok smB_ok 0 (SV.bdsL [.int .i32 (.v 0)]) []) (by kernel_rfl)) (fun ρ hρ => by exact congrArg (Value.int .i64) ((ite01 _ _ _).trans ((mod32 _).trans (wu32 _).symm))))
theorem tmF1 (n : Nat) (l : List (Int × Int)) (ins : List InD) : TmplOk (cxOf n l ins) 48 .none [.int .i64 (.v 0)] (.int .i32 (.w .i32 (.v 0))) :=
  tmpl_n (n := 0) (tmpl_as (tmpl_one (cx := cxOf 0 l []) (res := (.int .i32 (.ite (.b .lt .i64 (.b .rem .i64 (.v 0) (.c 4294967296)) (.c 0)) (.ite (.b .le .i64 (.c 2147483648) (.b .padd .i64 (.b .rem .i64 (.v 0) (.c 4294967296)) (.c 4294967296))) (.w .i32 (.b .psub .i64 (.b .padd .i64 (.b .rem .i64 (.v 0) (.c 4294967296)) (.c 4294967296)) (.c 4294967296))) (.w .i32 (.b .padd .i64 (.b .rem .i64 (.v 0) (.c 4294967296)) (.c 4294967296)))) (.ite (.b .le .i64 (.c 2147483648) (.b .rem .i64 (.v 0) (.c 4294967296))) (.w .i32 (.b .psub .i64 (.b .rem .i64 (.v 0) (.c 4294967296)) (.c 4294967296))) (.w .i32 (.b .rem .i64 (.v 0) (.c 4294967296))))))) (runC_ok smB_ok 0 (SV.bdsL [.int .i64 (.v 0)]) []) (by kernel_rfl)) (fun ρ hρ => by exact congrArg (Value.int .i32) (low_ref _)))
theorem tmF2 (n : Nat) (l : List (Int × Int)) (ins : List InD) : TmplOk (cxOf n l ins) 83 .none [.int .i64 (.v 0)] (.int .i32 (.b .min .i64 (.b .max .i64 (.v 0) (.c (-2147483648))) (.c 2147483647))) :=
  tmpl_n (n := 0) (tmpl_as (tmpl_one (cx := cxOf 0 l []) (res := (.int .i32 (.ite (.b .lt .i64 (.v 0) (.c (-2147483648))) (.c (-2147483648)) (.ite (.b .lt .i64 (.c 2147483647) (.v 0)) (.c 2147483647) (.w .i32 (.v 0)))))) (runC_ok smB_ok 0 (SV.bdsL [.int .i64 (.v 0)]) []) (by kernel_rfl)) (fun ρ hρ => by exact congrArg (Value.int .i32) (sat_ref _)))
theorem tmsF_ok (n : Nat) (l : List (Int × Int)) (ins : List InD) : TmsOk (cxOf n l ins) tmsF := tms_cons (by kernel_rfl) (tmF0 n l ins) (tms_cons (by kernel_rfl) (tmF1 n l ins) (tms_cons (by kernel_rfl) (tmF2 n l ins) (tms_nil _)))
noncomputable def smF (n : Nat) (l : List (Int × Int)) (ins : List InD) : SM := smOr (smOf (toldT (cxOf n l ins) tmsF)) (smB n l ins)
theorem smF_ok (n : Nat) (l : List (Int × Int)) (ins : List InD) : SmOk (cxOf n l ins) (smF n l ins) := smOr_ok (smOf_ok (toldT_ok (tmsF_ok n l ins))) (smB_ok n l ins)
end Go.Proofs.YtjooaieolphomaaGreatDoor
end

/-! Templates of functions of numbers, group Fa, each by one run of the engine. Printed by program. -/
section
set_option linter.unusedVariables false
set_option linter.unusedSimpArgs false
namespace Go.Proofs.YtjooaieolphomaaGreatDoor
open Go.Eng Go.RowKit
def tmsFa : List Tm := [
  ⟨86, .none, [.int .i32 (.v 0)], (.int .i64 (.ite (.b .lt .i64 (.b .rem .i64 (.v 0) (.c 32)) (.c 0)) (.b .padd .i64 (.b .rem .i64 (.v 0) (.c 32)) (.c 32)) (.b .rem .i64 (.v 0) (.c 32))))⟩,
  ⟨49, .none, [.int .i32 (.v 0), .int .i32 (.v 1)], (.int .i32 (.b .min .i64 (.b .max .i64 (.b .padd .i64 (.v 0) (.v 1)) (.c (-2147483648))) (.c 2147483647)))⟩,
  ⟨50, .none, [.int .i32 (.v 0), .int .i32 (.v 1)], (.int .i32 (.b .min .i64 (.b .max .i64 (.b .psub .i64 (.v 0) (.v 1)) (.c (-2147483648))) (.c 2147483647)))⟩,
  ⟨62, .none, [.int .i32 (.v 0), .int .i32 (.v 1)], (.int .i32 (.f 1 (.v 0) (.v 1) (.c 0)))⟩,
  ⟨82, .none, [.int .i32 (.v 0)], (.agg resBits)⟩]
theorem tmFa0 (n : Nat) (l : List (Int × Int)) (ins : List InD) : TmplOk (cxOf n l ins) 86 .none [.int .i32 (.v 0)] (.int .i64 (.ite (.b .lt .i64 (.b .rem .i64 (.v 0) (.c 32)) (.c 0)) (.b .padd .i64 (.b .rem .i64 (.v 0) (.c 32)) (.c 32)) (.b .rem .i64 (.v 0) (.c 32)))) :=
  tmpl_n (n := 0) (tmpl_one (cx := cxOf 0 l []) (runC_ok smF_ok 0 (SV.bdsL [.int .i32 (.v 0)]) []) (by kernel_rfl))
theorem tmFa1 (n : Nat) (l : List (Int × Int)) (ins : List InD) : TmplOk (cxOf n l ins) 49 .none [.int .i32 (.v 0), .int .i32 (.v 1)] (.int .i32 (.b .min .i64 (.b .max .i64 (.b .padd .i64 (.v 0) (.v 1)) (.c (-2147483648))) (.c 2147483647))) :=
  tmpl_n (n := 0) (tmpl_one (cx := cxOf 0 l []) (runC_ok smF_ok 0 (SV.bdsL [.int .i32 (.v 0), .int .i32 (.v 1)]) []) (by kernel_rfl))
theorem tmFa2 (n : Nat) (l : List (Int × Int)) (ins : List InD) : TmplOk (cxOf n l ins) 50 .none [.int .i32 (.v 0), .int .i32 (.v 1)] (.int .i32 (.b .min .i64 (.b .max .i64 (.b .psub .i64 (.v 0) (.v 1)) (.c (-2147483648))) (.c 2147483647))) :=
  tmpl_n (n := 0) (tmpl_one (cx := cxOf 0 l []) (runC_ok smF_ok 0 (SV.bdsL [.int .i32 (.v 0), .int .i32 (.v 1)]) []) (by kernel_rfl))
theorem tmFa3 (n : Nat) (l : List (Int × Int)) (ins : List InD) : TmplOk (cxOf n l ins) 62 .none [.int .i32 (.v 0), .int .i32 (.v 1)] (.int .i32 (.f 1 (.v 0) (.v 1) (.c 0))) :=
  tmpl_n (n := 0) (tmpl_as (tmpl_one (cx := cxOf 0 l []) (res := (.int .i32 (.ite (.b .lt .i64 (.b .rem .i64 (.b .pmul .i64 (.v 0) (.v 1)) (.c 1073741824)) (.c 0)) (.ite (.b .le .i64 (.c 536870912) (.b .padd .i64 (.b .rem .i64 (.b .pmul .i64 (.v 0) (.v 1)) (.c 1073741824)) (.c 1073741824))) (.b .min .i64 (.b .max .i64 (.w .i64 (.b .padd .i64 (.b .quo .i64 (.b .psub .i64 (.b .pmul .i64 (.v 0) (.v 1)) (.b .padd .i64 (.b .rem .i64 (.b .pmul .i64 (.v 0) (.v 1)) (.c 1073741824)) (.c 1073741824))) (.c 1073741824)) (.c 1))) (.c (-2147483648))) (.c 2147483647)) (.b .min .i64 (.b .max .i64 (.b .quo .i64 (.b .psub .i64 (.b .pmul .i64 (.v 0) (.v 1)) (.b .padd .i64 (.b .rem .i64 (.b .pmul .i64 (.v 0) (.v 1)) (.c 1073741824)) (.c 1073741824))) (.c 1073741824)) (.c (-2147483648))) (.c 2147483647))) (.ite (.b .le .i64 (.c 536870912) (.b .rem .i64 (.b .pmul .i64 (.v 0) (.v 1)) (.c 1073741824))) (.b .min .i64 (.b .max .i64 (.w .i64 (.b .padd .i64 (.b .quo .i64 (.b .psub .i64 (.b .pmul .i64 (.v 0) (.v 1)) (.b .rem .i64 (.b .pmul .i64 (.v 0) (.v 1)) (.c 1073741824))) (.c 1073741824)) (.c 1))) (.c (-2147483648))) (.c 2147483647)) (.b .min .i64 (.b .max .i64 (.b .quo .i64 (.b .psub .i64 (.b .pmul .i64 (.v 0) (.v 1)) (.b .rem .i64 (.b .pmul .i64 (.v 0) (.v 1)) (.c 1073741824))) (.c 1073741824)) (.c (-2147483648))) (.c 2147483647)))))) (runC_ok smF_ok 0 (SV.bdsL [.int .i32 (.v 0), .int .i32 (.v 1)]) []) (by kernel_rfl)) (fun ρ hρ => by have h0 := hρ.hi 0 _ rfl; have h1 := hρ.hi 1 _ rfl; refine (congrArg (Value.int .i32) (mulq_ref2 h0 h1)).trans ?_; show _ = Value.int .i32 (ρ.f 1 (ρ.i 0) (ρ.i 1) 0); rw [hρ.hF]; rfl))
theorem tmFa4 (n : Nat) (l : List (Int × Int)) (ins : List InD) : TmplOk (cxOf n l ins) 82 .none [.int .i32 (.v 0)] (.agg resBits) :=
  tmpl_n (n := 0) (tmpl_as (tmpl_one (cx := cxOf 0 l []) (res := (.agg mkBits)) (runC_ok smF_ok 0 (SV.bdsL [.int .i32 (.v 0)]) []) (by kernel_rfl)) (fun ρ hρ => by exact bits_den ρ hρ.hF _))
theorem tmsFa_ok (n : Nat) (l : List (Int × Int)) (ins : List InD) : TmsOk (cxOf n l ins) tmsFa := tms_cons (by kernel_rfl) (tmFa0 n l ins) (tms_cons (by kernel_rfl) (tmFa1 n l ins) (tms_cons (by kernel_rfl) (tmFa2 n l ins) (tms_cons (by kernel_rfl) (tmFa3 n l ins) (tms_cons (by kernel_rfl) (tmFa4 n l ins) (tms_nil _)))))
noncomputable def smFa (n : Nat) (l : List (Int × Int)) (ins : List InD) : SM := smOr (smOf (toldT (cxOf n l ins) tmsFa)) (smF n l ins)
theorem smFa_ok (n : Nat) (l : List (Int × Int)) (ins : List InD) : SmOk (cxOf n l ins) (smFa n l ins) := smOr_ok (smOf_ok (toldT_ok (tmsFa_ok n l ins))) (smF_ok n l ins)
end Go.Proofs.YtjooaieolphomaaGreatDoor
end

/-! The reference's count of leading noughts. Printed by program. -/
section
set_option linter.unusedVariables false
set_option linter.unusedSimpArgs false
namespace Go.Proofs.YtjooaieolphomaaGreatDoor
open Go.Eng Go.RowKit
theorem clzT (n : Nat) (l : List (Int × Int)) (ins : List InD) : TmplOk (cxOf n l ins) 41 .none [.int .i32 (.v 0)] (.int .i32 (.b .psub .i64 (.c 32) (.f 0 (.w .u32 (.v 0)) (.c 0) (.c 0)))) :=
  tmpl_n (n := 0) (tmpl_as (tmpl_one (cx := cxOf 0 l []) (res := .int .i32 (mkClz 32)) (runC_ok smFa_ok 0 (SV.bdsL [.int .i32 (.v 0)]) []) (by kernel_rfl)) (fun ρ hρ => by
    refine (congrArg (Value.int .i32) (clz_res hρ.hF)).trans ?_
    show _ = Value.int .i32 (32 - ρ.f 0 (IntKind.wrap .u32 (ρ.i 0)) 0 0)
    rw [hρ.hF]
    rfl))
noncomputable def smK (k : Nat) (n : Nat) (l : List (Int × Int)) (ins : List InD) : SM := smOr (smOf [(86, gBy k)]) (smFa n l ins)
theorem byT (n : Nat) (l : List (Int × Int)) (ins : List InD) : ∃ r : E, TmplOk (cxOf n l ins) 86 .none [.int .i32 (.v 0)] (.int .i64 r) ∧ ∀ (ρ : Env), r.ev ρ = ρ.i 0 % 32 :=
  ⟨.ite (.b .lt .i64 (.b .rem .i64 (.v 0) (.c 32)) (.c 0)) (.b .padd .i64 (.b .rem .i64 (.v 0) (.c 32)) (.c 32)) (.b .rem .i64 (.v 0) (.c 32)), (tmsFa_ok n l ins _ (List.mem_cons_self)).2, fun ρ => (ite01 _ _ _).trans (mod5 _)⟩
theorem byK_ok (k : Nat) (hk : k ≤ 31) (n : Nat) : ToldOk (cxOf n gam []) [(86, gBy k)] := by
  refine told_cons (fun ρ β w args v hρ hg => ?_) (told_nil _)
  unfold gBy at hg
  split at hg
  · rename_i e
    split at hg
    · rename_i he
      cases hg
      have := E.eq_of_beq he
      subst this
      obtain ⟨r, hr, hre⟩ := byT n gam []
      have hq := hρ.hi 1 _ rfl
      have hn : (nE k).ev ρ = 32 * ρ.i 1 + k := rfl
      have hρ' : EnvOk { cxOf n gam [] with Γ := SV.bdsL [.int .i32 (.v 0)], ins := [] } ⟨fun _ => (nE k).ev ρ, ρ.f, ρ.v, fun _ => roBlank⟩ := by
        refine ⟨fun i p hp => ?_, hρ.hf, hρ.hv, hρ.hF, fun k d hd => by simp at hd⟩
        match i with
        | 0 =>
          cases hp
          simp only [hn]
          show -2147483648 ≤ 32 * ρ.i 1 + (k : Int) ∧ 32 * ρ.i 1 + (k : Int) ≤ 2147483647
          simp only at hq
          omega
        | i + 1 => simp [SV.bdsL, SV.bds] at hp
      have h := hr _ w hρ' (fun _ => rfl)
      refine h.mono ?_
      rintro x w' ⟨rfl, hb⟩
      refine ⟨?_, hb⟩
      show Ending.returned (Value.int .i64 (r.ev _)) = Ending.returned (Value.int .i64 (k : Int))
      rw [hre]
      simp only [hn]
      congr 2
      omega
    · cases hg
  · cases hg
theorem smK_ok (k : Nat) (hk : k ≤ 31) (n : Nat) : SmOk (cxOf n gam []) (smK k n gam []) := smOr_ok (smOf_ok (byK_ok k hk n)) (smFa_ok n gam [])
noncomputable def runK (k : Nat) : CF := execFn (cxOf 0 gam []) (rtsB rtB) (smK k 0 gam []) (fun _ _ => .none) 40 30
theorem runK_ok (k : Nat) (hk : k ≤ 31) : CallOk (cxOf 0 gam []) (runK k) := execFn_ok (cxOf_ok 0 gam []) rtB_ok (smK_ok k hk 0) (xok0 _) _
def tmsG : List Tm := [⟨41, .none, [.int .i32 (.v 0)], (.int .i32 (.b .psub .i64 (.c 32) (.f 0 (.w .u32 (.v 0)) (.c 0) (.c 0))))⟩]
theorem tmsG_ok (n : Nat) (l : List (Int × Int)) (ins : List InD) : TmsOk (cxOf n l ins) tmsG := tms_cons (by kernel_rfl) (clzT n l ins) (tms_nil _)
noncomputable def smG (n : Nat) (l : List (Int × Int)) (ins : List InD) : SM := smOr (smOf (toldT (cxOf n l ins) tmsG)) (smFa n l ins)
theorem smG_ok (n : Nat) (l : List (Int × Int)) (ins : List InD) : SmOk (cxOf n l ins) (smG n l ins) := smOr_ok (smOf_ok (toldT_ok (tmsG_ok n l ins))) (smFa_ok n l ins)
end Go.Proofs.YtjooaieolphomaaGreatDoor
end
