/-
  The program's tables of types, of functions and of all regions that draw their order, as trees; the engine at this program. Printed by program.
-/
import Derived.Test.YteimodjkllldlaeGreatDoorGu5
import Derived.Test.YteimodjkllldlaeGreatDoorRows
import Derived.WalkKit
import Derived.ProofKit
set_option linter.unusedVariables false
set_option linter.unusedSimpArgs false
namespace Go.Proofs.YteimodjkllldlaeGreatDoor
open Go Go.Eng Go.RowKit
set_option maxRecDepth 100000
noncomputable def tyB : BT TypeInfo := (.node 62 Tryz.t62 (.node 30 Tryz.t30 (.node 22 Tryz.t22 (.node 5 Tryz.t5 (.node 3 Tryz.t3 (.node 2 Tryz.t2 .nil .nil) (.node 4 Tryz.t4 .nil .nil)) (.node 21 Tryz.t21 (.node 9 Tryz.t9 .nil .nil) .nil)) (.node 26 Tryz.t26 (.node 24 Tryz.t24 (.node 23 Tryz.t23 .nil .nil) (.node 25 Tryz.t25 .nil .nil)) (.node 29 Tryz.t29 (.node 27 Tryz.t27 .nil .nil) .nil))) (.node 53 Tryz.t53 (.node 50 Tryz.t50 (.node 34 Tryz.t34 (.node 31 Tryz.t31 .nil .nil) (.node 41 Tryz.t41 .nil .nil)) (.node 52 Tryz.t52 (.node 51 Tryz.t51 .nil .nil) .nil)) (.node 57 Tryz.t57 (.node 55 Tryz.t55 (.node 54 Tryz.t54 .nil .nil) .nil) (.node 61 Tryz.t61 (.node 60 Tryz.t60 .nil .nil) .nil)))) (.node 92 Tryz.t92 (.node 71 Tryz.t71 (.node 68 Tryz.t68 (.node 64 Tryz.t64 (.node 63 Tryz.t63 .nil .nil) (.node 65 Tryz.t65 .nil .nil)) (.node 70 Tryz.t70 (.node 69 Tryz.t69 .nil .nil) .nil)) (.node 86 Tryz.t86 (.node 85 Tryz.t85 (.node 83 Tryz.t83 .nil .nil) .nil) (.node 91 Tryz.t91 (.node 90 Tryz.t90 .nil .nil) .nil))) (.node 145 Tryz.t145 (.node 98 Tryz.t98 (.node 96 Tryz.t96 (.node 94 Tryz.t94 .nil .nil) (.node 97 Tryz.t97 .nil .nil)) (.node 131 Tryz.t131 (.node 99 Tryz.t99 .nil .nil) .nil)) (.node 162 Tryz.t162 (.node 161 Tryz.t161 (.node 152 Tryz.t152 .nil .nil) .nil) (.node 164 Tryz.t164 (.node 163 Tryz.t163 .nil .nil) .nil)))))
theorem tyB_ok : tyB.All fun i v => Tryz.prog.info? i = some v := ⟨Tryz.type62, ⟨Tryz.type30, ⟨Tryz.type22, ⟨Tryz.type5, ⟨Tryz.type3, ⟨Tryz.type2, trivial, trivial⟩, ⟨Tryz.type4, trivial, trivial⟩⟩, ⟨Tryz.type21, ⟨Tryz.type9, trivial, trivial⟩, trivial⟩⟩, ⟨Tryz.type26, ⟨Tryz.type24, ⟨Tryz.type23, trivial, trivial⟩, ⟨Tryz.type25, trivial, trivial⟩⟩, ⟨Tryz.type29, ⟨Tryz.type27, trivial, trivial⟩, trivial⟩⟩⟩, ⟨Tryz.type53, ⟨Tryz.type50, ⟨Tryz.type34, ⟨Tryz.type31, trivial, trivial⟩, ⟨Tryz.type41, trivial, trivial⟩⟩, ⟨Tryz.type52, ⟨Tryz.type51, trivial, trivial⟩, trivial⟩⟩, ⟨Tryz.type57, ⟨Tryz.type55, ⟨Tryz.type54, trivial, trivial⟩, trivial⟩, ⟨Tryz.type61, ⟨Tryz.type60, trivial, trivial⟩, trivial⟩⟩⟩⟩, ⟨Tryz.type92, ⟨Tryz.type71, ⟨Tryz.type68, ⟨Tryz.type64, ⟨Tryz.type63, trivial, trivial⟩, ⟨Tryz.type65, trivial, trivial⟩⟩, ⟨Tryz.type70, ⟨Tryz.type69, trivial, trivial⟩, trivial⟩⟩, ⟨Tryz.type86, ⟨Tryz.type85, ⟨Tryz.type83, trivial, trivial⟩, trivial⟩, ⟨Tryz.type91, ⟨Tryz.type90, trivial, trivial⟩, trivial⟩⟩⟩, ⟨Tryz.type145, ⟨Tryz.type98, ⟨Tryz.type96, ⟨Tryz.type94, trivial, trivial⟩, ⟨Tryz.type97, trivial, trivial⟩⟩, ⟨Tryz.type131, ⟨Tryz.type99, trivial, trivial⟩, trivial⟩⟩, ⟨Tryz.type162, ⟨Tryz.type161, ⟨Tryz.type152, trivial, trivial⟩, trivial⟩, ⟨Tryz.type164, ⟨Tryz.type163, trivial, trivial⟩, trivial⟩⟩⟩⟩⟩
noncomputable def fuB : BT Func := (.node 69 Tryz.f69 (.node 35 Tryz.f35 (.node 19 Tryz.f19 (.node 11 Tryz.f11 (.node 7 Tryz.f7 (.node 5 Tryz.f5 (.node 4 Tryz.f4 (.node 3 Tryz.f3 .nil .nil) .nil) (.node 6 Tryz.f6 .nil .nil)) (.node 9 Tryz.f9 (.node 8 Tryz.f8 .nil .nil) (.node 10 Tryz.f10 .nil .nil))) (.node 15 Tryz.f15 (.node 13 Tryz.f13 (.node 12 Tryz.f12 .nil .nil) (.node 14 Tryz.f14 .nil .nil)) (.node 17 Tryz.f17 (.node 16 Tryz.f16 .nil .nil) (.node 18 Tryz.f18 .nil .nil)))) (.node 27 Tryz.f27 (.node 23 Tryz.f23 (.node 21 Tryz.f21 (.node 20 Tryz.f20 .nil .nil) (.node 22 Tryz.f22 .nil .nil)) (.node 25 Tryz.f25 (.node 24 Tryz.f24 .nil .nil) (.node 26 Tryz.f26 .nil .nil))) (.node 31 Tryz.f31 (.node 29 Tryz.f29 (.node 28 Tryz.f28 .nil .nil) (.node 30 Tryz.f30 .nil .nil)) (.node 33 Tryz.f33 (.node 32 Tryz.f32 .nil .nil) (.node 34 Tryz.f34 .nil .nil))))) (.node 51 Tryz.f51 (.node 43 Tryz.f43 (.node 39 Tryz.f39 (.node 37 Tryz.f37 (.node 36 Tryz.f36 .nil .nil) (.node 38 Tryz.f38 .nil .nil)) (.node 41 Tryz.f41 (.node 40 Tryz.f40 .nil .nil) (.node 42 Tryz.f42 .nil .nil))) (.node 47 Tryz.f47 (.node 45 Tryz.f45 (.node 44 Tryz.f44 .nil .nil) (.node 46 Tryz.f46 .nil .nil)) (.node 49 Tryz.f49 (.node 48 Tryz.f48 .nil .nil) (.node 50 Tryz.f50 .nil .nil)))) (.node 59 Tryz.f59 (.node 55 Tryz.f55 (.node 53 Tryz.f53 (.node 52 Tryz.f52 .nil .nil) (.node 54 Tryz.f54 .nil .nil)) (.node 57 Tryz.f57 (.node 56 Tryz.f56 .nil .nil) (.node 58 Tryz.f58 .nil .nil))) (.node 63 Tryz.f63 (.node 61 Tryz.f61 (.node 60 Tryz.f60 .nil .nil) (.node 62 Tryz.f62 .nil .nil)) (.node 67 Tryz.f67 (.node 64 Tryz.f64 .nil .nil) (.node 68 Tryz.f68 .nil .nil)))))) (.node 111 Tryz.f111 (.node 95 Tryz.f95 (.node 78 Tryz.f78 (.node 74 Tryz.f74 (.node 72 Tryz.f72 (.node 71 Tryz.f71 (.node 70 Tryz.f70 .nil .nil) .nil) (.node 73 Tryz.f73 .nil .nil)) (.node 76 Tryz.f76 (.node 75 Tryz.f75 .nil .nil) (.node 77 Tryz.f77 .nil .nil))) (.node 82 Tryz.f82 (.node 80 Tryz.f80 (.node 79 Tryz.f79 .nil .nil) (.node 81 Tryz.f81 .nil .nil)) (.node 84 Tryz.f84 (.node 83 Tryz.f83 .nil .nil) (.node 85 Tryz.f85 .nil .nil)))) (.node 103 Tryz.f103 (.node 99 Tryz.f99 (.node 97 Tryz.f97 (.node 96 Tryz.f96 .nil .nil) (.node 98 Tryz.f98 .nil .nil)) (.node 101 Tryz.f101 (.node 100 Tryz.f100 .nil .nil) (.node 102 Tryz.f102 .nil .nil))) (.node 107 Tryz.f107 (.node 105 Tryz.f105 (.node 104 Tryz.f104 .nil .nil) (.node 106 Tryz.f106 .nil .nil)) (.node 109 Tryz.f109 (.node 108 Tryz.f108 .nil .nil) (.node 110 Tryz.f110 .nil .nil))))) (.node 133 Tryz.f133 (.node 125 Tryz.f125 (.node 121 Tryz.f121 (.node 119 Tryz.f119 (.node 112 Tryz.f112 .nil .nil) (.node 120 Tryz.f120 .nil .nil)) (.node 123 Tryz.f123 (.node 122 Tryz.f122 .nil .nil) (.node 124 Tryz.f124 .nil .nil))) (.node 129 Tryz.f129 (.node 127 Tryz.f127 (.node 126 Tryz.f126 .nil .nil) (.node 128 Tryz.f128 .nil .nil)) (.node 131 Tryz.f131 (.node 130 Tryz.f130 .nil .nil) (.node 132 Tryz.f132 .nil .nil)))) (.node 142 Tryz.f142 (.node 138 Tryz.f138 (.node 136 Tryz.f136 (.node 135 Tryz.f135 .nil .nil) (.node 137 Tryz.f137 .nil .nil)) (.node 140 Tryz.f140 (.node 139 Tryz.f139 .nil .nil) (.node 141 Tryz.f141 .nil .nil))) (.node 164 Tryz.f164 (.node 144 Tryz.f144 (.node 143 Tryz.f143 .nil .nil) (.node 145 Tryz.f145 .nil .nil)) (.node 166 Tryz.f166 (.node 165 Tryz.f165 .nil .nil) (.node 167 Tryz.f167 .nil .nil)))))))
theorem fuB_ok : fuB.All fun i v => Tryz.prog.funcs[i]? = some v := ⟨Tryz.func69, ⟨Tryz.func35, ⟨Tryz.func19, ⟨Tryz.func11, ⟨Tryz.func7, ⟨Tryz.func5, ⟨Tryz.func4, ⟨Tryz.func3, trivial, trivial⟩, trivial⟩, ⟨Tryz.func6, trivial, trivial⟩⟩, ⟨Tryz.func9, ⟨Tryz.func8, trivial, trivial⟩, ⟨Tryz.func10, trivial, trivial⟩⟩⟩, ⟨Tryz.func15, ⟨Tryz.func13, ⟨Tryz.func12, trivial, trivial⟩, ⟨Tryz.func14, trivial, trivial⟩⟩, ⟨Tryz.func17, ⟨Tryz.func16, trivial, trivial⟩, ⟨Tryz.func18, trivial, trivial⟩⟩⟩⟩, ⟨Tryz.func27, ⟨Tryz.func23, ⟨Tryz.func21, ⟨Tryz.func20, trivial, trivial⟩, ⟨Tryz.func22, trivial, trivial⟩⟩, ⟨Tryz.func25, ⟨Tryz.func24, trivial, trivial⟩, ⟨Tryz.func26, trivial, trivial⟩⟩⟩, ⟨Tryz.func31, ⟨Tryz.func29, ⟨Tryz.func28, trivial, trivial⟩, ⟨Tryz.func30, trivial, trivial⟩⟩, ⟨Tryz.func33, ⟨Tryz.func32, trivial, trivial⟩, ⟨Tryz.func34, trivial, trivial⟩⟩⟩⟩⟩, ⟨Tryz.func51, ⟨Tryz.func43, ⟨Tryz.func39, ⟨Tryz.func37, ⟨Tryz.func36, trivial, trivial⟩, ⟨Tryz.func38, trivial, trivial⟩⟩, ⟨Tryz.func41, ⟨Tryz.func40, trivial, trivial⟩, ⟨Tryz.func42, trivial, trivial⟩⟩⟩, ⟨Tryz.func47, ⟨Tryz.func45, ⟨Tryz.func44, trivial, trivial⟩, ⟨Tryz.func46, trivial, trivial⟩⟩, ⟨Tryz.func49, ⟨Tryz.func48, trivial, trivial⟩, ⟨Tryz.func50, trivial, trivial⟩⟩⟩⟩, ⟨Tryz.func59, ⟨Tryz.func55, ⟨Tryz.func53, ⟨Tryz.func52, trivial, trivial⟩, ⟨Tryz.func54, trivial, trivial⟩⟩, ⟨Tryz.func57, ⟨Tryz.func56, trivial, trivial⟩, ⟨Tryz.func58, trivial, trivial⟩⟩⟩, ⟨Tryz.func63, ⟨Tryz.func61, ⟨Tryz.func60, trivial, trivial⟩, ⟨Tryz.func62, trivial, trivial⟩⟩, ⟨Tryz.func67, ⟨Tryz.func64, trivial, trivial⟩, ⟨Tryz.func68, trivial, trivial⟩⟩⟩⟩⟩⟩, ⟨Tryz.func111, ⟨Tryz.func95, ⟨Tryz.func78, ⟨Tryz.func74, ⟨Tryz.func72, ⟨Tryz.func71, ⟨Tryz.func70, trivial, trivial⟩, trivial⟩, ⟨Tryz.func73, trivial, trivial⟩⟩, ⟨Tryz.func76, ⟨Tryz.func75, trivial, trivial⟩, ⟨Tryz.func77, trivial, trivial⟩⟩⟩, ⟨Tryz.func82, ⟨Tryz.func80, ⟨Tryz.func79, trivial, trivial⟩, ⟨Tryz.func81, trivial, trivial⟩⟩, ⟨Tryz.func84, ⟨Tryz.func83, trivial, trivial⟩, ⟨Tryz.func85, trivial, trivial⟩⟩⟩⟩, ⟨Tryz.func103, ⟨Tryz.func99, ⟨Tryz.func97, ⟨Tryz.func96, trivial, trivial⟩, ⟨Tryz.func98, trivial, trivial⟩⟩, ⟨Tryz.func101, ⟨Tryz.func100, trivial, trivial⟩, ⟨Tryz.func102, trivial, trivial⟩⟩⟩, ⟨Tryz.func107, ⟨Tryz.func105, ⟨Tryz.func104, trivial, trivial⟩, ⟨Tryz.func106, trivial, trivial⟩⟩, ⟨Tryz.func109, ⟨Tryz.func108, trivial, trivial⟩, ⟨Tryz.func110, trivial, trivial⟩⟩⟩⟩⟩, ⟨Tryz.func133, ⟨Tryz.func125, ⟨Tryz.func121, ⟨Tryz.func119, ⟨Tryz.func112, trivial, trivial⟩, ⟨Tryz.func120, trivial, trivial⟩⟩, ⟨Tryz.func123, ⟨Tryz.func122, trivial, trivial⟩, ⟨Tryz.func124, trivial, trivial⟩⟩⟩, ⟨Tryz.func129, ⟨Tryz.func127, ⟨Tryz.func126, trivial, trivial⟩, ⟨Tryz.func128, trivial, trivial⟩⟩, ⟨Tryz.func131, ⟨Tryz.func130, trivial, trivial⟩, ⟨Tryz.func132, trivial, trivial⟩⟩⟩⟩, ⟨Tryz.func142, ⟨Tryz.func138, ⟨Tryz.func136, ⟨Tryz.func135, trivial, trivial⟩, ⟨Tryz.func137, trivial, trivial⟩⟩, ⟨Tryz.func140, ⟨Tryz.func139, trivial, trivial⟩, ⟨Tryz.func141, trivial, trivial⟩⟩⟩, ⟨Tryz.func164, ⟨Tryz.func144, ⟨Tryz.func143, trivial, trivial⟩, ⟨Tryz.func145, trivial, trivial⟩⟩, ⟨Tryz.func166, ⟨Tryz.func165, trivial, trivial⟩, ⟨Tryz.func167, trivial, trivial⟩⟩⟩⟩⟩⟩⟩
def rt3 : BT (List Row) := (.node 4 [⟨0, 0⟩, ⟨1, 1⟩, ⟨0, 0⟩, ⟨0, 0⟩, ⟨12, 12⟩, ⟨18, 18⟩, ⟨32, 32⟩, ⟨64, 64⟩, ⟨64, 64⟩, ⟨255, 128⟩, ⟨1023, 256⟩] (.node 3 [⟨0, 0⟩, ⟨1, 1⟩, ⟨0, 0⟩, ⟨0, 0⟩, ⟨12, 12⟩, ⟨18, 18⟩, ⟨32, 32⟩, ⟨64, 64⟩, ⟨64, 64⟩, ⟨255, 128⟩, ⟨1023, 256⟩] .nil .nil) (.node 15 [⟨0, 0⟩, ⟨1, 1⟩, ⟨0, 0⟩, ⟨6, 6⟩, ⟨8, 8⟩, ⟨16, 16⟩, ⟨32, 32⟩, ⟨64, 64⟩, ⟨64, 64⟩, ⟨448, 448⟩, ⟨576, 576⟩, ⟨64, 64⟩, ⟨64, 64⟩, ⟨6208, 6208⟩, ⟨8256, 8256⟩, ⟨17472, 17472⟩, ⟨32832, 32832⟩] .nil .nil))
theorem rw3 : qKd Tryz.prog 3 rt3 := qZv Tryz.func3 (by kernel_rfl)
def rt7 : BT (List Row) := (.node 9 [⟨0, 0⟩, ⟨0, 0⟩, ⟨2, 2⟩, ⟨4, 4⟩, ⟨8, 8⟩, ⟨0, 0⟩, ⟨0, 0⟩, ⟨64, 64⟩, ⟨160, 160⟩, ⟨256, 256⟩, ⟨528, 528⟩, ⟨2047, 1⟩, ⟨4095, 2048⟩, ⟨6143, 5120⟩] .nil .nil)
theorem rw7 : qKd Tryz.prog 7 rt7 := qZv Tryz.func7 (by kernel_rfl)
def rt12 : BT (List Row) := (.node 6 [⟨0, 0⟩, ⟨0, 0⟩, ⟨3, 3⟩, ⟨4, 4⟩, ⟨0, 0⟩, ⟨0, 0⟩, ⟨48, 48⟩, ⟨64, 64⟩, ⟨136, 136⟩] .nil .nil)
theorem rw12 : qKd Tryz.prog 12 rt12 := qZv Tryz.func12 (by kernel_rfl)
def rt15 : BT (List Row) := (.node 12 [⟨0, 0⟩, ⟨1, 1⟩, ⟨2, 2⟩, ⟨0, 0⟩, ⟨8, 8⟩, ⟨16, 16⟩, ⟨36, 36⟩, ⟨66, 64⟩] .nil .nil)
theorem rw15 : qKd Tryz.prog 15 rt15 := qZv Tryz.func15 (by kernel_rfl)
def rt18 : BT (List Row) := (.node 6 [⟨0, 0⟩, ⟨0, 0⟩, ⟨2, 2⟩, ⟨4, 4⟩, ⟨8, 8⟩, ⟨0, 0⟩, ⟨32, 32⟩, ⟨80, 80⟩, ⟨255, 1⟩, ⟨511, 256⟩, ⟨767, 640⟩] (.node 1 [⟨0, 0⟩, ⟨0, 0⟩, ⟨2, 2⟩, ⟨4, 4⟩, ⟨8, 8⟩, ⟨17, 17⟩, ⟨32, 32⟩, ⟨127, 64⟩] .nil .nil) (.node 8 [⟨0, 0⟩, ⟨0, 0⟩, ⟨0, 0⟩, ⟨4, 4⟩, ⟨8, 8⟩, ⟨0, 0⟩, ⟨32, 32⟩, ⟨80, 64⟩, ⟨157, 1⟩, ⟨413, 256⟩, ⟨669, 528⟩, ⟨2047, 2⟩, ⟨4095, 2048⟩, ⟨6143, 4224⟩] .nil .nil))
theorem rw18 : qKd Tryz.prog 18 rt18 := qZv Tryz.func18 (by kernel_rfl)
def rt20 : BT (List Row) := (.node 2 [⟨0, 0⟩, ⟨1, 1⟩, ⟨0, 0⟩, ⟨4, 4⟩, ⟨8, 8⟩, ⟨18, 18⟩, ⟨32, 32⟩, ⟨0, 0⟩, ⟨128, 128⟩, ⟨0, 0⟩, ⟨512, 512⟩, ⟨1040, 1024⟩, ⟨2304, 2304⟩, ⟨4096, 4096⟩, ⟨0, 0⟩, ⟨16384, 16384⟩, ⟨0, 0⟩, ⟨65536, 65536⟩, ⟨133120, 131072⟩, ⟨294912, 294912⟩, ⟨524288, 524288⟩, ⟨262271, 64⟩, ⟨2113535, 8192⟩, ⟨8388607, 1048576⟩] (.node 1 [⟨0, 0⟩, ⟨1, 1⟩, ⟨2, 2⟩, ⟨4, 4⟩, ⟨0, 0⟩, ⟨24, 24⟩, ⟨32, 32⟩, ⟨0, 0⟩, ⟨128, 128⟩, ⟨256, 256⟩, ⟨512, 512⟩, ⟨0, 0⟩, ⟨3072, 3072⟩, ⟨4096, 4096⟩, ⟨0, 0⟩, ⟨0, 0⟩, ⟨49279, 16448⟩, ⟨131071, 40960⟩] .nil .nil) (.node 13 [⟨0, 0⟩, ⟨1, 1⟩, ⟨2, 2⟩, ⟨6, 6⟩, ⟨10, 10⟩, ⟨18, 18⟩, ⟨34, 34⟩, ⟨2, 2⟩, ⟨130, 130⟩, ⟨322, 322⟩, ⟨514, 514⟩, ⟨1026, 1026⟩, ⟨2050, 2050⟩, ⟨8191, 4096⟩] .nil .nil))
theorem rw20 : qKd Tryz.prog 20 rt20 := qZv Tryz.func20 (by kernel_rfl)
def rt24 : BT (List Row) := (.node 6 [⟨0, 0⟩, ⟨1, 1⟩, ⟨2, 2⟩, ⟨4, 4⟩, ⟨0, 0⟩, ⟨16, 16⟩, ⟨32, 32⟩, ⟨64, 64⟩, ⟨136, 136⟩, ⟨256, 256⟩, ⟨0, 0⟩, ⟨2047, 1536⟩] (.node 3 [⟨0, 0⟩, ⟨1, 1⟩, ⟨2, 2⟩, ⟨4, 4⟩, ⟨8, 8⟩, ⟨16, 16⟩, ⟨32, 32⟩, ⟨96, 96⟩, ⟨160, 160⟩, ⟨288, 288⟩, ⟨32, 32⟩, ⟨1056, 1056⟩, ⟨2080, 2080⟩, ⟨4128, 4128⟩, ⟨8224, 8224⟩, ⟨16928, 16928⟩, ⟨32800, 32800⟩] .nil .nil) .nil)
theorem rw24 : qKd Tryz.prog 24 rt24 := qZv Tryz.func24 (by kernel_rfl)
def rt31 : BT (List Row) := (.node 11 [⟨0, 0⟩, ⟨0, 0⟩, ⟨3, 3⟩, ⟨4, 4⟩, ⟨0, 0⟩, ⟨0, 0⟩, ⟨32, 32⟩, ⟨80, 80⟩, ⟨128, 128⟩, ⟨264, 264⟩] (.node 6 [⟨0, 0⟩, ⟨0, 0⟩, ⟨3, 3⟩, ⟨4, 4⟩, ⟨0, 0⟩, ⟨0, 0⟩, ⟨32, 32⟩, ⟨80, 80⟩, ⟨128, 128⟩, ⟨264, 264⟩] .nil .nil) .nil)
theorem rw31 : qKd Tryz.prog 31 rt31 := qZv Tryz.func31 (by kernel_rfl)
def rt34 : BT (List Row) := (.node 4 [⟨0, 0⟩, ⟨1, 1⟩, ⟨2, 2⟩, ⟨4, 4⟩, ⟨0, 0⟩, ⟨0, 0⟩, ⟨63, 24⟩, ⟨127, 96⟩] .nil .nil)
theorem rw34 : qKd Tryz.prog 34 rt34 := qZv Tryz.func34 (by kernel_rfl)
def rt37 : BT (List Row) := (.node 0 [⟨0, 0⟩, ⟨1, 1⟩, ⟨2, 2⟩, ⟨4, 4⟩, ⟨0, 0⟩, ⟨24, 24⟩, ⟨32, 32⟩, ⟨0, 0⟩, ⟨128, 128⟩, ⟨256, 256⟩, ⟨512, 512⟩, ⟨0, 0⟩, ⟨3072, 3072⟩, ⟨4096, 4096⟩, ⟨8192, 8192⟩, ⟨0, 0⟩, ⟨32895, 32832⟩, ⟨131071, 16384⟩] .nil .nil)
theorem rw37 : qKd Tryz.prog 37 rt37 := qZv Tryz.func37 (by kernel_rfl)
def rt39 : BT (List Row) := (.node 1 [⟨0, 0⟩, ⟨1, 1⟩, ⟨2, 2⟩, ⟨4, 4⟩, ⟨8, 8⟩, ⟨24, 24⟩, ⟨40, 40⟩, ⟨72, 72⟩, ⟨136, 128⟩, ⟨256, 256⟩, ⟨768, 768⟩, ⟨1280, 1280⟩, ⟨2304, 2304⟩, ⟨4352, 4096⟩, ⟨8192, 8192⟩, ⟨24576, 24576⟩, ⟨8192, 8192⟩, ⟨73728, 73728⟩, ⟨139264, 139264⟩, ⟨270336, 270336⟩, ⟨532480, 532480⟩, ⟨1056768, 1056768⟩, ⟨2138112, 2138112⟩, ⟨4202496, 4202496⟩, ⟨16777215, 8388608⟩] .nil .nil)
theorem rw39 : qKd Tryz.prog 39 rt39 := qZv Tryz.func39 (by kernel_rfl)
def rt43 : BT (List Row) := (.node 8 [⟨0, 0⟩, ⟨0, 0⟩, ⟨2, 2⟩, ⟨4, 4⟩, ⟨8, 8⟩, ⟨16, 16⟩, ⟨32, 32⟩, ⟨0, 0⟩, ⟨128, 128⟩, ⟨256, 256⟩, ⟨512, 512⟩, ⟨1088, 1088⟩, ⟨0, 0⟩, ⟨4096, 4096⟩, ⟨10240, 10240⟩, ⟨16385, 16385⟩, ⟨65535, 32769⟩] .nil .nil)
theorem rw43 : qKd Tryz.prog 43 rt43 := qZv Tryz.func43 (by kernel_rfl)
def rt44 : BT (List Row) := (.node 4 [⟨0, 0⟩, ⟨1, 1⟩, ⟨0, 0⟩, ⟨0, 0⟩, ⟨0, 0⟩, ⟨16, 16⟩, ⟨8, 8⟩, ⟨64, 64⟩, ⟨160, 160⟩, ⟨256, 256⟩, ⟨518, 518⟩, ⟨1024, 1024⟩, ⟨2048, 2048⟩, ⟨2048, 2048⟩, ⟨8191, 4096⟩, ⟨32767, 8192⟩] (.node 1 [⟨0, 0⟩, ⟨0, 0⟩, ⟨2, 2⟩, ⟨1, 1⟩, ⟨8, 8⟩, ⟨20, 20⟩, ⟨32, 32⟩, ⟨127, 64⟩] .nil .nil) .nil)
theorem rw44 : qKd Tryz.prog 44 rt44 := qZv Tryz.func44 (by kernel_rfl)
def rt51 : BT (List Row) := (.node 13 [⟨0, 0⟩, ⟨1, 1⟩, ⟨2, 2⟩, ⟨4, 4⟩, ⟨8, 8⟩, ⟨0, 0⟩, ⟨32, 32⟩, ⟨80, 80⟩, ⟨128, 128⟩, ⟨511, 256⟩, ⟨1023, 0⟩] .nil .nil)
theorem rw51 : qKd Tryz.prog 51 rt51 := qZv Tryz.func51 (by kernel_rfl)
def rt62 : BT (List Row) := (.node 9 [⟨0, 0⟩, ⟨1, 1⟩, ⟨2, 2⟩, ⟨4, 4⟩, ⟨0, 0⟩, ⟨0, 0⟩, ⟨0, 0⟩, ⟨64, 64⟩, ⟨32, 32⟩, ⟨256, 256⟩, ⟨640, 640⟩, ⟨1024, 1024⟩, ⟨2072, 2072⟩] (.node 1 [⟨0, 0⟩, ⟨0, 0⟩, ⟨2, 2⟩, ⟨1, 1⟩, ⟨8, 8⟩, ⟨20, 20⟩, ⟨32, 32⟩, ⟨0, 0⟩, ⟨128, 128⟩, ⟨256, 256⟩, ⟨576, 576⟩, ⟨2047, 1024⟩] .nil .nil) .nil)
theorem rw62 : qKd Tryz.prog 62 rt62 := qZv Tryz.func62 (by kernel_rfl)
def rt63 : BT (List Row) := (.node 14 [⟨0, 0⟩, ⟨0, 0⟩, ⟨2, 2⟩, ⟨0, 0⟩, ⟨8, 8⟩, ⟨16, 16⟩, ⟨37, 37⟩] (.node 13 [⟨0, 0⟩, ⟨0, 0⟩, ⟨2, 2⟩, ⟨0, 0⟩, ⟨8, 8⟩, ⟨16, 16⟩, ⟨32, 32⟩, ⟨64, 64⟩, ⟨128, 128⟩, ⟨261, 261⟩] (.node 1 [⟨0, 0⟩, ⟨0, 0⟩, ⟨2, 2⟩, ⟨1, 1⟩, ⟨8, 8⟩, ⟨20, 20⟩, ⟨32, 32⟩, ⟨0, 0⟩, ⟨0, 0⟩, ⟨256, 256⟩, ⟨128, 128⟩, ⟨1024, 1024⟩, ⟨2560, 2560⟩, ⟨4096, 4096⟩, ⟨127, 64⟩, ⟨32767, 8192⟩] .nil .nil) .nil) (.node 16 [⟨0, 0⟩, ⟨0, 0⟩, ⟨2, 2⟩, ⟨4, 4⟩, ⟨8, 8⟩, ⟨0, 0⟩, ⟨32, 32⟩, ⟨64, 64⟩, ⟨145, 145⟩] .nil .nil))
theorem rw63 : qKd Tryz.prog 63 rt63 := qZv Tryz.func63 (by kernel_rfl)
def rt80 : BT (List Row) := (.node 0 [⟨0, 0⟩, ⟨0, 0⟩, ⟨2, 2⟩, ⟨4, 4⟩, ⟨8, 8⟩, ⟨0, 0⟩, ⟨32, 32⟩, ⟨64, 64⟩, ⟨128, 128⟩, ⟨0, 0⟩, ⟨0, 0⟩, ⟨1792, 1792⟩, ⟨2048, 2048⟩, ⟨4112, 4112⟩, ⟨16383, 1⟩, ⟨32767, 16384⟩, ⟨49151, 40960⟩] .nil .nil)
theorem rw80 : qKd Tryz.prog 80 rt80 := qZv Tryz.func80 (by kernel_rfl)
def rt164 : BT (List Row) := (.node 1 [⟨0, 0⟩, ⟨0, 0⟩, ⟨3, 3⟩, ⟨4, 4⟩, ⟨0, 0⟩, ⟨0, 0⟩, ⟨48, 48⟩, ⟨64, 64⟩, ⟨136, 136⟩, ⟨511, 256⟩] .nil .nil)
theorem rw164 : qKd Tryz.prog 164 rt164 := qZv Tryz.func164 (by kernel_rfl)
def rt165 : BT (List Row) := (.node 0 [⟨0, 0⟩, ⟨0, 0⟩, ⟨0, 0⟩, ⟨0, 0⟩, ⟨0, 0⟩, ⟨0, 0⟩, ⟨48, 48⟩, ⟨64, 64⟩, ⟨0, 0⟩, ⟨0, 0⟩, ⟨768, 768⟩, ⟨1024, 1024⟩, ⟨2291, 3⟩, ⟨6387, 4224⟩, ⟨16383, 12⟩, ⟨32767, 18432⟩] .nil .nil)
theorem rw165 : qKd Tryz.prog 165 rt165 := qZv Tryz.func165 (by kernel_rfl)
def rtB : RowT := (.node 37 rt37 (.node 18 rt18 (.node 12 rt12 (.node 7 rt7 (.node 3 rt3 .nil .nil) .nil) (.node 15 rt15 .nil .nil)) (.node 31 rt31 (.node 24 rt24 (.node 20 rt20 .nil .nil) .nil) (.node 34 rt34 .nil .nil))) (.node 62 rt62 (.node 44 rt44 (.node 43 rt43 (.node 39 rt39 .nil .nil) .nil) (.node 51 rt51 .nil .nil)) (.node 164 rt164 (.node 80 rt80 (.node 63 rt63 .nil .nil) .nil) (.node 165 rt165 .nil .nil))))
theorem rtB_ok : RtsOk Tryz.prog (rtsB rtB) := rtsB_ok ⟨rw37, ⟨rw18, ⟨rw12, ⟨rw7, ⟨rw3, trivial, trivial⟩, trivial⟩, ⟨rw15, trivial, trivial⟩⟩, ⟨rw31, ⟨rw24, ⟨rw20, trivial, trivial⟩, trivial⟩, ⟨rw34, trivial, trivial⟩⟩⟩, ⟨rw62, ⟨rw44, ⟨rw43, ⟨rw39, trivial, trivial⟩, trivial⟩, ⟨rw51, trivial, trivial⟩⟩, ⟨rw164, ⟨rw80, ⟨rw63, trivial, trivial⟩, trivial⟩, ⟨rw165, trivial, trivial⟩⟩⟩⟩

theorem own : ownKnob Tryz.prog.godebug = none := by kernel_rfl
theorem laidOut : laidOutB Tryz.prog = true := by kernel_rfl
theorem nogo : (Tryz.prog.funcs.all fun fn => fn.name != "runtime.NumGoroutine") = true := by kernel_rfl
theorem mixedOk : Tryz.prog.follows .mixedOrders = true := by kernel_rfl
/-- the types whose values are compared with no panic -/
noncomputable def seqB (t : TypeId) : Bool := !Tryz.prog.eqGuardType Tryz.prog.depth t && !Tryz.prog.stoodInHeld t
/-- the tables that the row lays, as rows that come in -/
def tabsL : List InD := [⟨[.int .i64], qQg [.c 1, .c 1, .c 1, .c 1, .c 1, .c 1, .c 1, .c 1, .c 1, .c 1, .c 1, .c 1, .c 1, .c 1, .c 1, .c 1, .c 1, .c 3, .c 3, .c 3, .c 3, .c 2, .c 2, .c 1, .c 1, .c 1, .c 1, .c 1, .c 1, .c 1, .c 1, .c 1, .c 1, .c 2, .c 2, .c 1, .c 1, .c 1, .c 3, .c 3, .c 3, .c 1, .c 1], .c 43, .c 43, some 0⟩]
/-- n: how deep a number may be without a name (0: none is named) -/
noncomputable def cxOf (n : Nat) : Cx :=
  { P := Tryz.prog, Γ := [], Φ := phiN, F := fN, lf := lfN, ins := [], tabs := tabsL, sh := n, und := undB tyB, inf := infB tyB, fn := fnB fuB, seq := seqB,
    undOk := undB_ok tyB_ok, infOk := fun _ _ h => BT.find_all tyB_ok h, fnOk := fun _ _ h => BT.find_all fuB_ok h,
    seqOk := fun t h => by unfold seqB at h; simpa using h }
theorem cxOf_ok (n : Nat) (m : Rc) : CxOk (m.cx (cxOf n)) :=
  ⟨mixedOk, fun f fn h => by
    have h1 := Array.all_eq_true.1 nogo
    obtain ⟨h2, h3⟩ := Array.getElem?_eq_some_iff.1 h
    have := h1 f h2
    have h4 : (Tryz.prog.funcs[f]'h2) = fn := h3
    rw [h4] at this
    simpa using this⟩
/-- the same, with what comes in -/
noncomputable def cxG (n : Nat) (Γ : List (Int × Int)) (ins : List InD) : Cx := { cxOf n with Γ := Γ, ins := ins ++ tabsL }
theorem tabsAll : (tabsL.all fun d => d.c.vb 0 && (d.n.vb 0 && d.cap.vb 0)) = true := by kernel_rfl
theorem tabsG (n : Nat) (Γ : List (Int × Int)) (ins : List InD) : TabsOk (cxG n Γ ins) := ⟨⟨ins, rfl⟩, fun d hd => by have := List.all_eq_true.1 tabsAll d hd; simp only [Bool.and_eq_true] at this; exact this⟩
theorem cxG_ok (n : Nat) (Γ : List (Int × Int)) (ins : List InD) : CxOk (cxG n Γ ins) :=
  ⟨mixedOk, fun f fn h => by
    have h1 := Array.all_eq_true.1 nogo
    obtain ⟨h2, h3⟩ := Array.getElem?_eq_some_iff.1 h
    have := h1 f h2
    have h4 : (Tryz.prog.funcs[f]'h2) = fn := h3
    rw [h4] at this
    simpa using this⟩
/-- a contract holds however much is named, and whatever else comes in -/
theorem rc_n {n k : Nat} {Γ : List (Int × Int)} {ins : List InD} {m : Rc} (h : RcOk (cxOf n) m) : RcOk (cxG k Γ ins) m :=
  fun ρ w hρ hc hp hr => h ρ w ⟨hρ.hi, hρ.hf, hρ.hv, hρ.hF, hρ.hP, hρ.hro⟩ hc hp hr
theorem rh_n {n k : Nat} {Γ : List (Int × Int)} {ins : List InD} {m : Rh} (h : RhOk (cxOf n) m) : RhOk (cxG k Γ ins) m :=
  fun ρ β w hρ hp hs => h ρ β w ⟨hρ.hi, hρ.hf, hρ.hv, hρ.hF, hρ.hP, hρ.hro⟩ hp hs
theorem mg {α : Type} {l : List α} {a : α} (i : Nat) (h : l[i]? = some a) : a ∈ l := List.mem_of_getElem? h
/-- the engine's runs -/
abbrev SMs := List (Int × Int) → List InD → Nat → SM
def SMsOk (sm : SMs) : Prop := ∀ Γ ins n, SmOk (cxG n Γ ins) (sm Γ ins n)
noncomputable def runC (sm : SMs) (Γ : List (Int × Int)) (ins : List InD) (n : Nat) : CF := execFn (cxG n Γ ins) (rtsB rtB) (sm Γ ins n) (fun _ _ => none) 40 30
theorem xok0 (cx : Cx) : XOk cx (fun _ _ => none) := fun _ _ _ _ _ _ _ h => by cases h
theorem runC_ok {sm : SMs} (h : SMsOk sm) (Γ : List (Int × Int)) (ins : List InD) (n : Nat) : qKp (cxG n Γ ins) (runC sm Γ ins n) := execFn_ok (cxG_ok n Γ ins) rtB_ok (h Γ ins n) (xok0 _) _
noncomputable def runG (sm : SMs) (lhs : LHS) (Γ : List (Int × Int)) (ins : List InD) (n : Nat) : CFT := execFnT (cxG n Γ ins) (rtsB rtB) (sm Γ ins n) (fun _ _ => none) lhs (runC sm Γ ins n) 40 30
theorem runG_ok {sm : SMs} (h : SMsOk sm) (lhs : LHS) (Γ : List (Int × Int)) (ins : List InD) (n : Nat) : qJa (cxG n Γ ins) (runG sm lhs Γ ins n) :=
  execFnT_ok (cxG_ok n Γ ins) rtB_ok (h Γ ins n) (xok0 _) (runC_ok h Γ ins n) _
noncomputable def runT (sm : SMs) (lhs : LHS) (m : Rc) (n : Nat) : CFT := runG sm lhs (bdsF m.ls) (qXh m.b m.c m.ls 0 0 0) n
theorem runT_ok {sm : SMs} (h : SMsOk sm) (lhs : LHS) (m : Rc) (n : Nat) : qJa (m.cx (cxOf n)) (runT sm lhs m n) := runG_ok h lhs _ _ n
noncomputable def runH (sm : SMs) (lhs : LHS) (m : Rk) (n : Nat) : CFT := runG sm lhs m.Γ m.ins n
theorem runH_ok {sm : SMs} (h : SMsOk sm) (lhs : LHS) (m : Rk) (n : Nat) : qJa (m.rh.cx (cxOf n)) (runH sm lhs m n) := runG_ok h lhs m.Γ m.ins n
/-! the parts of a contract's proof -/
noncomputable def fineR (n : Nat) (m : Rc) (t : TT (List E)) : Bool := TT.fine (m.cx (cxOf n)) 1000 [] t && (m.cx (cxOf n)).okB 1000 && SV.vbL 1000 m.args && TT.tidy (m.cx (cxOf n)) [] t
noncomputable def ranR (us : SMs) (lhs : LHS) (m : Rc) (n : Nat) (t : TT (List E)) : Bool := TT.beq (projL (m.pj (cxOf n)) (runT us lhs m n m.f m.args ⟨[], []⟩)) t
def statR (n : Nat) (m : Rc) (t : TT (List E)) (ρ : Env) : Prop := TT.hdP (m.cx (cxOf n)) (rlF ρ m.res) t ρ
theorem okR {us : SMs} {lhs : LHS} {m : Rc} {n : Nat} {t : TT (List E)} (hu : SMsOk us) (h1 : ranR us lhs m n t = true) (h2 : fineR n m t = true) (h3 : m.ok = true)
    (h : ∀ i v ro p, EnvOk (m.cx (cxOf n)) ⟨i, fN, v, ro, p⟩ → (∀ d ∈ qXh m.b m.c m.ls 0 0 0, d.n.ev ⟨i, fN, v, ro, p⟩ ≤ d.cap.ev ⟨i, fN, v, ro, p⟩) → (∀ e ∈ m.pre, e.evP ⟨i, fN, v, ro, p⟩ ≠ 0) → statR n m t ⟨i, fN, v, ro, p⟩) : RcOk (cxOf n) m :=
  rc_run (runT_ok hu lhs m n) h1 h2 h3 fun ρ hρ hcap hpre => by
    obtain ⟨i, f, v, ro, p⟩ := ρ
    have hf : f = fN := hρ.hF
    subst hf
    exact h i v ro p hρ hcap hpre
noncomputable def fineH (n : Nat) (m : Rk) (t : TT (List E)) : Bool := TT.fine (m.rh.cx (cxOf n)) 1000 [] t && (m.rh.cx (cxOf n)).okB 1000 && SV.vbL 1000 m.args && TT.tidy (m.rh.cx (cxOf n)) [] t
noncomputable def ranH (us : SMs) (lhs : LHS) (m : Rk) (n : Nat) (t : TT (List E)) : Bool := TT.beq (projL (m.pj (cxOf n)) (runH us lhs m n m.f m.args ⟨m.inb, m.kn0⟩)) t
def statH (n : Nat) (m : Rk) (t : TT (List E)) (ρ : Env) : Prop := TT.hdP (m.rh.cx (cxOf n)) (rsF ρ m.rs) t ρ
theorem okH {us : SMs} {lhs : LHS} {m : Rk} {n : Nat} {t : TT (List E)} (hu : SMsOk us) (h1 : ranH us lhs m n t = true) (h2 : fineH n m t = true) (h4 : blVb 1000 m.inb = true) (h3 : m.ok = true)
    (h : ∀ i v ro p, EnvOk (m.rh.cx (cxOf n)) ⟨i, fN, v, ro, p⟩ → (∀ e ∈ m.pre, e.evP ⟨i, fN, v, ro, p⟩ ≠ 0) → statH n m t ⟨i, fN, v, ro, p⟩) : RhOk (cxOf n) m.rh :=
  rk_run (runH_ok hu lhs m n) h1 h2 h4 h3 fun ρ hρ hpre => by
    obtain ⟨i, f, v, ro, p⟩ := ρ
    have hf : f = fN := hρ.hF
    subst hf
    exact h i v ro p hρ hpre
theorem den_row (ρ : Env) (β : Bt) (k z i j : Nat) : (SV.sl (.inp k) z (.c 0) (.v i) (some (.v j))).den ρ β = .slice (ρ.ro k).a (ρ.i i).toNat (ρ.i j).toNat := by
  simp only [SV.den, E.ev, map_addr_zero]
end Go.Proofs.YteimodjkllldlaeGreatDoor
