/-
  The program's tables of types, of functions and of all regions that draw their order, as trees; the engine at this program. Printed by program.
-/
import Derived.Test.YteimodjkllldlafGreatDoorGu5
import Derived.Test.YteimodjkllldlafGreatDoorRows
import Derived.WalkKit
import Derived.ProofKit
set_option linter.unusedVariables false
set_option linter.unusedSimpArgs false
namespace Go.Proofs.YteimodjkllldlafGreatDoor
open Go Go.Eng Go.RowKit
set_option maxRecDepth 100000
noncomputable def tyB : BT TypeInfo := (.node 59 Tryz.t59 (.node 30 Tryz.t30 (.node 22 Tryz.t22 (.node 5 Tryz.t5 (.node 3 Tryz.t3 (.node 2 Tryz.t2 .nil .nil) (.node 4 Tryz.t4 .nil .nil)) (.node 21 Tryz.t21 (.node 9 Tryz.t9 .nil .nil) .nil)) (.node 26 Tryz.t26 (.node 24 Tryz.t24 (.node 23 Tryz.t23 .nil .nil) (.node 25 Tryz.t25 .nil .nil)) (.node 29 Tryz.t29 (.node 27 Tryz.t27 .nil .nil) .nil))) (.node 51 Tryz.t51 (.node 41 Tryz.t41 (.node 35 Tryz.t35 (.node 31 Tryz.t31 .nil .nil) (.node 40 Tryz.t40 .nil .nil)) (.node 50 Tryz.t50 (.node 49 Tryz.t49 .nil .nil) .nil)) (.node 54 Tryz.t54 (.node 53 Tryz.t53 (.node 52 Tryz.t52 .nil .nil) .nil) (.node 56 Tryz.t56 (.node 55 Tryz.t55 .nil .nil) .nil)))) (.node 91 Tryz.t91 (.node 68 Tryz.t68 (.node 63 Tryz.t63 (.node 61 Tryz.t61 (.node 60 Tryz.t60 .nil .nil) (.node 62 Tryz.t62 .nil .nil)) (.node 65 Tryz.t65 (.node 64 Tryz.t64 .nil .nil) .nil)) (.node 86 Tryz.t86 (.node 81 Tryz.t81 (.node 69 Tryz.t69 .nil .nil) .nil) (.node 89 Tryz.t89 (.node 87 Tryz.t87 .nil .nil) .nil))) (.node 140 Tryz.t140 (.node 118 Tryz.t118 (.node 93 Tryz.t93 (.node 92 Tryz.t92 .nil .nil) (.node 94 Tryz.t94 .nil .nil)) (.node 139 Tryz.t139 (.node 132 Tryz.t132 .nil .nil) .nil)) (.node 154 Tryz.t154 (.node 153 Tryz.t153 (.node 141 Tryz.t141 .nil .nil) .nil) (.node 156 Tryz.t156 (.node 155 Tryz.t155 .nil .nil) .nil)))))
theorem tyB_ok : tyB.All fun i v => Tryz.prog.info? i = some v := ⟨Tryz.type59, ⟨Tryz.type30, ⟨Tryz.type22, ⟨Tryz.type5, ⟨Tryz.type3, ⟨Tryz.type2, trivial, trivial⟩, ⟨Tryz.type4, trivial, trivial⟩⟩, ⟨Tryz.type21, ⟨Tryz.type9, trivial, trivial⟩, trivial⟩⟩, ⟨Tryz.type26, ⟨Tryz.type24, ⟨Tryz.type23, trivial, trivial⟩, ⟨Tryz.type25, trivial, trivial⟩⟩, ⟨Tryz.type29, ⟨Tryz.type27, trivial, trivial⟩, trivial⟩⟩⟩, ⟨Tryz.type51, ⟨Tryz.type41, ⟨Tryz.type35, ⟨Tryz.type31, trivial, trivial⟩, ⟨Tryz.type40, trivial, trivial⟩⟩, ⟨Tryz.type50, ⟨Tryz.type49, trivial, trivial⟩, trivial⟩⟩, ⟨Tryz.type54, ⟨Tryz.type53, ⟨Tryz.type52, trivial, trivial⟩, trivial⟩, ⟨Tryz.type56, ⟨Tryz.type55, trivial, trivial⟩, trivial⟩⟩⟩⟩, ⟨Tryz.type91, ⟨Tryz.type68, ⟨Tryz.type63, ⟨Tryz.type61, ⟨Tryz.type60, trivial, trivial⟩, ⟨Tryz.type62, trivial, trivial⟩⟩, ⟨Tryz.type65, ⟨Tryz.type64, trivial, trivial⟩, trivial⟩⟩, ⟨Tryz.type86, ⟨Tryz.type81, ⟨Tryz.type69, trivial, trivial⟩, trivial⟩, ⟨Tryz.type89, ⟨Tryz.type87, trivial, trivial⟩, trivial⟩⟩⟩, ⟨Tryz.type140, ⟨Tryz.type118, ⟨Tryz.type93, ⟨Tryz.type92, trivial, trivial⟩, ⟨Tryz.type94, trivial, trivial⟩⟩, ⟨Tryz.type139, ⟨Tryz.type132, trivial, trivial⟩, trivial⟩⟩, ⟨Tryz.type154, ⟨Tryz.type153, ⟨Tryz.type141, trivial, trivial⟩, trivial⟩, ⟨Tryz.type156, ⟨Tryz.type155, trivial, trivial⟩, trivial⟩⟩⟩⟩⟩
noncomputable def fuB : BT Func := (.node 65 Tryz.f65 (.node 34 Tryz.f34 (.node 18 Tryz.f18 (.node 10 Tryz.f10 (.node 6 Tryz.f6 (.node 4 Tryz.f4 (.node 3 Tryz.f3 .nil .nil) (.node 5 Tryz.f5 .nil .nil)) (.node 8 Tryz.f8 (.node 7 Tryz.f7 .nil .nil) (.node 9 Tryz.f9 .nil .nil))) (.node 14 Tryz.f14 (.node 12 Tryz.f12 (.node 11 Tryz.f11 .nil .nil) (.node 13 Tryz.f13 .nil .nil)) (.node 16 Tryz.f16 (.node 15 Tryz.f15 .nil .nil) (.node 17 Tryz.f17 .nil .nil)))) (.node 26 Tryz.f26 (.node 22 Tryz.f22 (.node 20 Tryz.f20 (.node 19 Tryz.f19 .nil .nil) (.node 21 Tryz.f21 .nil .nil)) (.node 24 Tryz.f24 (.node 23 Tryz.f23 .nil .nil) (.node 25 Tryz.f25 .nil .nil))) (.node 30 Tryz.f30 (.node 28 Tryz.f28 (.node 27 Tryz.f27 .nil .nil) (.node 29 Tryz.f29 .nil .nil)) (.node 32 Tryz.f32 (.node 31 Tryz.f31 .nil .nil) (.node 33 Tryz.f33 .nil .nil))))) (.node 50 Tryz.f50 (.node 42 Tryz.f42 (.node 38 Tryz.f38 (.node 36 Tryz.f36 (.node 35 Tryz.f35 .nil .nil) (.node 37 Tryz.f37 .nil .nil)) (.node 40 Tryz.f40 (.node 39 Tryz.f39 .nil .nil) (.node 41 Tryz.f41 .nil .nil))) (.node 46 Tryz.f46 (.node 44 Tryz.f44 (.node 43 Tryz.f43 .nil .nil) (.node 45 Tryz.f45 .nil .nil)) (.node 48 Tryz.f48 (.node 47 Tryz.f47 .nil .nil) (.node 49 Tryz.f49 .nil .nil)))) (.node 58 Tryz.f58 (.node 54 Tryz.f54 (.node 52 Tryz.f52 (.node 51 Tryz.f51 .nil .nil) (.node 53 Tryz.f53 .nil .nil)) (.node 56 Tryz.f56 (.node 55 Tryz.f55 .nil .nil) (.node 57 Tryz.f57 .nil .nil))) (.node 62 Tryz.f62 (.node 60 Tryz.f60 (.node 59 Tryz.f59 .nil .nil) (.node 61 Tryz.f61 .nil .nil)) (.node 64 Tryz.f64 (.node 63 Tryz.f63 .nil .nil) .nil))))) (.node 107 Tryz.f107 (.node 83 Tryz.f83 (.node 73 Tryz.f73 (.node 69 Tryz.f69 (.node 67 Tryz.f67 (.node 66 Tryz.f66 .nil .nil) (.node 68 Tryz.f68 .nil .nil)) (.node 71 Tryz.f71 (.node 70 Tryz.f70 .nil .nil) (.node 72 Tryz.f72 .nil .nil))) (.node 79 Tryz.f79 (.node 75 Tryz.f75 (.node 74 Tryz.f74 .nil .nil) (.node 78 Tryz.f78 .nil .nil)) (.node 81 Tryz.f81 (.node 80 Tryz.f80 .nil .nil) (.node 82 Tryz.f82 .nil .nil)))) (.node 91 Tryz.f91 (.node 87 Tryz.f87 (.node 85 Tryz.f85 (.node 84 Tryz.f84 .nil .nil) (.node 86 Tryz.f86 .nil .nil)) (.node 89 Tryz.f89 (.node 88 Tryz.f88 .nil .nil) (.node 90 Tryz.f90 .nil .nil))) (.node 95 Tryz.f95 (.node 93 Tryz.f93 (.node 92 Tryz.f92 .nil .nil) (.node 94 Tryz.f94 .nil .nil)) (.node 97 Tryz.f97 (.node 96 Tryz.f96 .nil .nil) .nil)))) (.node 129 Tryz.f129 (.node 115 Tryz.f115 (.node 111 Tryz.f111 (.node 109 Tryz.f109 (.node 108 Tryz.f108 .nil .nil) (.node 110 Tryz.f110 .nil .nil)) (.node 113 Tryz.f113 (.node 112 Tryz.f112 .nil .nil) (.node 114 Tryz.f114 .nil .nil))) (.node 119 Tryz.f119 (.node 117 Tryz.f117 (.node 116 Tryz.f116 .nil .nil) (.node 118 Tryz.f118 .nil .nil)) (.node 121 Tryz.f121 (.node 120 Tryz.f120 .nil .nil) (.node 122 Tryz.f122 .nil .nil)))) (.node 137 Tryz.f137 (.node 133 Tryz.f133 (.node 131 Tryz.f131 (.node 130 Tryz.f130 .nil .nil) (.node 132 Tryz.f132 .nil .nil)) (.node 135 Tryz.f135 (.node 134 Tryz.f134 .nil .nil) (.node 136 Tryz.f136 .nil .nil))) (.node 160 Tryz.f160 (.node 140 Tryz.f140 (.node 139 Tryz.f139 .nil .nil) (.node 159 Tryz.f159 .nil .nil)) (.node 162 Tryz.f162 (.node 161 Tryz.f161 .nil .nil) .nil))))))
theorem fuB_ok : fuB.All fun i v => Tryz.prog.funcs[i]? = some v := ⟨Tryz.func65, ⟨Tryz.func34, ⟨Tryz.func18, ⟨Tryz.func10, ⟨Tryz.func6, ⟨Tryz.func4, ⟨Tryz.func3, trivial, trivial⟩, ⟨Tryz.func5, trivial, trivial⟩⟩, ⟨Tryz.func8, ⟨Tryz.func7, trivial, trivial⟩, ⟨Tryz.func9, trivial, trivial⟩⟩⟩, ⟨Tryz.func14, ⟨Tryz.func12, ⟨Tryz.func11, trivial, trivial⟩, ⟨Tryz.func13, trivial, trivial⟩⟩, ⟨Tryz.func16, ⟨Tryz.func15, trivial, trivial⟩, ⟨Tryz.func17, trivial, trivial⟩⟩⟩⟩, ⟨Tryz.func26, ⟨Tryz.func22, ⟨Tryz.func20, ⟨Tryz.func19, trivial, trivial⟩, ⟨Tryz.func21, trivial, trivial⟩⟩, ⟨Tryz.func24, ⟨Tryz.func23, trivial, trivial⟩, ⟨Tryz.func25, trivial, trivial⟩⟩⟩, ⟨Tryz.func30, ⟨Tryz.func28, ⟨Tryz.func27, trivial, trivial⟩, ⟨Tryz.func29, trivial, trivial⟩⟩, ⟨Tryz.func32, ⟨Tryz.func31, trivial, trivial⟩, ⟨Tryz.func33, trivial, trivial⟩⟩⟩⟩⟩, ⟨Tryz.func50, ⟨Tryz.func42, ⟨Tryz.func38, ⟨Tryz.func36, ⟨Tryz.func35, trivial, trivial⟩, ⟨Tryz.func37, trivial, trivial⟩⟩, ⟨Tryz.func40, ⟨Tryz.func39, trivial, trivial⟩, ⟨Tryz.func41, trivial, trivial⟩⟩⟩, ⟨Tryz.func46, ⟨Tryz.func44, ⟨Tryz.func43, trivial, trivial⟩, ⟨Tryz.func45, trivial, trivial⟩⟩, ⟨Tryz.func48, ⟨Tryz.func47, trivial, trivial⟩, ⟨Tryz.func49, trivial, trivial⟩⟩⟩⟩, ⟨Tryz.func58, ⟨Tryz.func54, ⟨Tryz.func52, ⟨Tryz.func51, trivial, trivial⟩, ⟨Tryz.func53, trivial, trivial⟩⟩, ⟨Tryz.func56, ⟨Tryz.func55, trivial, trivial⟩, ⟨Tryz.func57, trivial, trivial⟩⟩⟩, ⟨Tryz.func62, ⟨Tryz.func60, ⟨Tryz.func59, trivial, trivial⟩, ⟨Tryz.func61, trivial, trivial⟩⟩, ⟨Tryz.func64, ⟨Tryz.func63, trivial, trivial⟩, trivial⟩⟩⟩⟩⟩, ⟨Tryz.func107, ⟨Tryz.func83, ⟨Tryz.func73, ⟨Tryz.func69, ⟨Tryz.func67, ⟨Tryz.func66, trivial, trivial⟩, ⟨Tryz.func68, trivial, trivial⟩⟩, ⟨Tryz.func71, ⟨Tryz.func70, trivial, trivial⟩, ⟨Tryz.func72, trivial, trivial⟩⟩⟩, ⟨Tryz.func79, ⟨Tryz.func75, ⟨Tryz.func74, trivial, trivial⟩, ⟨Tryz.func78, trivial, trivial⟩⟩, ⟨Tryz.func81, ⟨Tryz.func80, trivial, trivial⟩, ⟨Tryz.func82, trivial, trivial⟩⟩⟩⟩, ⟨Tryz.func91, ⟨Tryz.func87, ⟨Tryz.func85, ⟨Tryz.func84, trivial, trivial⟩, ⟨Tryz.func86, trivial, trivial⟩⟩, ⟨Tryz.func89, ⟨Tryz.func88, trivial, trivial⟩, ⟨Tryz.func90, trivial, trivial⟩⟩⟩, ⟨Tryz.func95, ⟨Tryz.func93, ⟨Tryz.func92, trivial, trivial⟩, ⟨Tryz.func94, trivial, trivial⟩⟩, ⟨Tryz.func97, ⟨Tryz.func96, trivial, trivial⟩, trivial⟩⟩⟩⟩, ⟨Tryz.func129, ⟨Tryz.func115, ⟨Tryz.func111, ⟨Tryz.func109, ⟨Tryz.func108, trivial, trivial⟩, ⟨Tryz.func110, trivial, trivial⟩⟩, ⟨Tryz.func113, ⟨Tryz.func112, trivial, trivial⟩, ⟨Tryz.func114, trivial, trivial⟩⟩⟩, ⟨Tryz.func119, ⟨Tryz.func117, ⟨Tryz.func116, trivial, trivial⟩, ⟨Tryz.func118, trivial, trivial⟩⟩, ⟨Tryz.func121, ⟨Tryz.func120, trivial, trivial⟩, ⟨Tryz.func122, trivial, trivial⟩⟩⟩⟩, ⟨Tryz.func137, ⟨Tryz.func133, ⟨Tryz.func131, ⟨Tryz.func130, trivial, trivial⟩, ⟨Tryz.func132, trivial, trivial⟩⟩, ⟨Tryz.func135, ⟨Tryz.func134, trivial, trivial⟩, ⟨Tryz.func136, trivial, trivial⟩⟩⟩, ⟨Tryz.func160, ⟨Tryz.func140, ⟨Tryz.func139, trivial, trivial⟩, ⟨Tryz.func159, trivial, trivial⟩⟩, ⟨Tryz.func162, ⟨Tryz.func161, trivial, trivial⟩, trivial⟩⟩⟩⟩⟩⟩
def rt3 : BT (List Row) := (.node 5 [⟨0, 0⟩, ⟨1, 1⟩, ⟨0, 0⟩, ⟨0, 0⟩, ⟨12, 12⟩, ⟨18, 18⟩, ⟨32, 32⟩, ⟨64, 64⟩, ⟨64, 64⟩, ⟨255, 128⟩, ⟨1023, 256⟩] (.node 4 [⟨0, 0⟩, ⟨1, 1⟩, ⟨0, 0⟩, ⟨0, 0⟩, ⟨12, 12⟩, ⟨18, 18⟩, ⟨32, 32⟩, ⟨64, 64⟩, ⟨64, 64⟩, ⟨255, 128⟩, ⟨1023, 256⟩] .nil .nil) .nil)
theorem rw3 : qKo Tryz.prog 3 rt3 := qZc Tryz.func3 (by kernel_rfl)
def rt8 : BT (List Row) := (.node 9 [⟨0, 0⟩, ⟨0, 0⟩, ⟨2, 2⟩, ⟨4, 4⟩, ⟨8, 8⟩, ⟨0, 0⟩, ⟨0, 0⟩, ⟨64, 64⟩, ⟨160, 160⟩, ⟨256, 256⟩, ⟨528, 528⟩, ⟨2047, 1⟩, ⟨4095, 2048⟩, ⟨6143, 5120⟩] .nil .nil)
theorem rw8 : qKo Tryz.prog 8 rt8 := qZc Tryz.func8 (by kernel_rfl)
def rt13 : BT (List Row) := (.node 6 [⟨0, 0⟩, ⟨1, 1⟩, ⟨2, 2⟩, ⟨4, 4⟩, ⟨0, 0⟩, ⟨16, 16⟩, ⟨32, 32⟩, ⟨64, 64⟩, ⟨136, 136⟩, ⟨256, 256⟩, ⟨0, 0⟩, ⟨2047, 1536⟩] (.node 3 [⟨0, 0⟩, ⟨1, 1⟩, ⟨2, 2⟩, ⟨4, 4⟩, ⟨8, 8⟩, ⟨16, 16⟩, ⟨32, 32⟩, ⟨96, 96⟩, ⟨160, 160⟩, ⟨288, 288⟩, ⟨32, 32⟩, ⟨1056, 1056⟩, ⟨2080, 2080⟩, ⟨4128, 4128⟩, ⟨8224, 8224⟩, ⟨16928, 16928⟩, ⟨32800, 32800⟩] .nil .nil) .nil)
theorem rw13 : qKo Tryz.prog 13 rt13 := qZc Tryz.func13 (by kernel_rfl)
def rt14 : BT (List Row) := (.node 12 [⟨0, 0⟩, ⟨1, 1⟩, ⟨2, 2⟩, ⟨0, 0⟩, ⟨8, 8⟩, ⟨16, 16⟩, ⟨36, 36⟩, ⟨66, 64⟩] .nil .nil)
theorem rw14 : qKo Tryz.prog 14 rt14 := qZc Tryz.func14 (by kernel_rfl)
def rt17 : BT (List Row) := (.node 6 [⟨0, 0⟩, ⟨0, 0⟩, ⟨2, 2⟩, ⟨4, 4⟩, ⟨8, 8⟩, ⟨0, 0⟩, ⟨32, 32⟩, ⟨80, 80⟩, ⟨255, 1⟩, ⟨511, 256⟩, ⟨767, 640⟩] (.node 1 [⟨0, 0⟩, ⟨0, 0⟩, ⟨2, 2⟩, ⟨4, 4⟩, ⟨8, 8⟩, ⟨17, 17⟩, ⟨32, 32⟩, ⟨127, 64⟩] .nil .nil) (.node 8 [⟨0, 0⟩, ⟨0, 0⟩, ⟨0, 0⟩, ⟨4, 4⟩, ⟨8, 8⟩, ⟨0, 0⟩, ⟨32, 32⟩, ⟨80, 64⟩, ⟨157, 1⟩, ⟨413, 256⟩, ⟨669, 528⟩, ⟨2047, 2⟩, ⟨4095, 2048⟩, ⟨6143, 4224⟩] .nil .nil))
theorem rw17 : qKo Tryz.prog 17 rt17 := qZc Tryz.func17 (by kernel_rfl)
def rt19 : BT (List Row) := (.node 2 [⟨0, 0⟩, ⟨1, 1⟩, ⟨0, 0⟩, ⟨4, 4⟩, ⟨8, 8⟩, ⟨18, 18⟩, ⟨32, 32⟩, ⟨0, 0⟩, ⟨128, 128⟩, ⟨0, 0⟩, ⟨512, 512⟩, ⟨1040, 1024⟩, ⟨2304, 2304⟩, ⟨4096, 4096⟩, ⟨0, 0⟩, ⟨16384, 16384⟩, ⟨0, 0⟩, ⟨65536, 65536⟩, ⟨133120, 131072⟩, ⟨294912, 294912⟩, ⟨524288, 524288⟩, ⟨262271, 64⟩, ⟨2113535, 8192⟩, ⟨8388607, 1048576⟩] (.node 1 [⟨0, 0⟩, ⟨1, 1⟩, ⟨2, 2⟩, ⟨4, 4⟩, ⟨0, 0⟩, ⟨24, 24⟩, ⟨32, 32⟩, ⟨0, 0⟩, ⟨128, 128⟩, ⟨256, 256⟩, ⟨512, 512⟩, ⟨0, 0⟩, ⟨3072, 3072⟩, ⟨4096, 4096⟩, ⟨0, 0⟩, ⟨0, 0⟩, ⟨49279, 16448⟩, ⟨131071, 40960⟩] .nil .nil) (.node 13 [⟨0, 0⟩, ⟨1, 1⟩, ⟨2, 2⟩, ⟨6, 6⟩, ⟨10, 10⟩, ⟨18, 18⟩, ⟨34, 34⟩, ⟨2, 2⟩, ⟨130, 130⟩, ⟨322, 322⟩, ⟨514, 514⟩, ⟨1026, 1026⟩, ⟨2050, 2050⟩, ⟨8191, 4096⟩] .nil .nil))
theorem rw19 : qKo Tryz.prog 19 rt19 := qZc Tryz.func19 (by kernel_rfl)
def rt23 : BT (List Row) := (.node 4 [⟨0, 0⟩, ⟨1, 1⟩, ⟨0, 0⟩, ⟨0, 0⟩, ⟨0, 0⟩, ⟨16, 16⟩, ⟨8, 8⟩, ⟨64, 64⟩, ⟨160, 160⟩, ⟨256, 256⟩, ⟨518, 518⟩, ⟨1024, 1024⟩, ⟨2048, 2048⟩, ⟨2048, 2048⟩, ⟨8191, 4096⟩, ⟨32767, 8192⟩] (.node 1 [⟨0, 0⟩, ⟨0, 0⟩, ⟨2, 2⟩, ⟨1, 1⟩, ⟨8, 8⟩, ⟨20, 20⟩, ⟨32, 32⟩, ⟨127, 64⟩] .nil .nil) .nil)
theorem rw23 : qKo Tryz.prog 23 rt23 := qZc Tryz.func23 (by kernel_rfl)
def rt27 : BT (List Row) := (.node 11 [⟨0, 0⟩, ⟨0, 0⟩, ⟨3, 3⟩, ⟨4, 4⟩, ⟨0, 0⟩, ⟨0, 0⟩, ⟨32, 32⟩, ⟨80, 80⟩, ⟨128, 128⟩, ⟨264, 264⟩] (.node 6 [⟨0, 0⟩, ⟨0, 0⟩, ⟨3, 3⟩, ⟨4, 4⟩, ⟨0, 0⟩, ⟨0, 0⟩, ⟨32, 32⟩, ⟨80, 80⟩, ⟨128, 128⟩, ⟨264, 264⟩] .nil .nil) .nil)
theorem rw27 : qKo Tryz.prog 27 rt27 := qZc Tryz.func27 (by kernel_rfl)
def rt30 : BT (List Row) := (.node 4 [⟨0, 0⟩, ⟨1, 1⟩, ⟨2, 2⟩, ⟨4, 4⟩, ⟨0, 0⟩, ⟨0, 0⟩, ⟨63, 24⟩, ⟨127, 96⟩] .nil .nil)
theorem rw30 : qKo Tryz.prog 30 rt30 := qZc Tryz.func30 (by kernel_rfl)
def rt33 : BT (List Row) := (.node 0 [⟨0, 0⟩, ⟨1, 1⟩, ⟨2, 2⟩, ⟨4, 4⟩, ⟨0, 0⟩, ⟨24, 24⟩, ⟨32, 32⟩, ⟨0, 0⟩, ⟨128, 128⟩, ⟨256, 256⟩, ⟨512, 512⟩, ⟨0, 0⟩, ⟨3072, 3072⟩, ⟨4096, 4096⟩, ⟨8192, 8192⟩, ⟨0, 0⟩, ⟨32895, 32832⟩, ⟨131071, 16384⟩] .nil .nil)
theorem rw33 : qKo Tryz.prog 33 rt33 := qZc Tryz.func33 (by kernel_rfl)
def rt35 : BT (List Row) := (.node 1 [⟨0, 0⟩, ⟨1, 1⟩, ⟨2, 2⟩, ⟨4, 4⟩, ⟨8, 8⟩, ⟨24, 24⟩, ⟨40, 40⟩, ⟨72, 72⟩, ⟨136, 128⟩, ⟨256, 256⟩, ⟨768, 768⟩, ⟨1280, 1280⟩, ⟨2304, 2304⟩, ⟨4352, 4096⟩, ⟨8192, 8192⟩, ⟨24576, 24576⟩, ⟨8192, 8192⟩, ⟨73728, 73728⟩, ⟨139264, 139264⟩, ⟨270336, 270336⟩, ⟨532480, 532480⟩, ⟨1056768, 1056768⟩, ⟨2138112, 2138112⟩, ⟨4202496, 4202496⟩, ⟨16777215, 8388608⟩] .nil .nil)
theorem rw35 : qKo Tryz.prog 35 rt35 := qZc Tryz.func35 (by kernel_rfl)
def rt39 : BT (List Row) := (.node 8 [⟨0, 0⟩, ⟨0, 0⟩, ⟨2, 2⟩, ⟨4, 4⟩, ⟨8, 8⟩, ⟨16, 16⟩, ⟨32, 32⟩, ⟨0, 0⟩, ⟨128, 128⟩, ⟨256, 256⟩, ⟨512, 512⟩, ⟨1088, 1088⟩, ⟨0, 0⟩, ⟨4096, 4096⟩, ⟨10240, 10240⟩, ⟨16385, 16385⟩, ⟨65535, 32769⟩] .nil .nil)
theorem rw39 : qKo Tryz.prog 39 rt39 := qZc Tryz.func39 (by kernel_rfl)
def rt44 : BT (List Row) := (.node 9 [⟨0, 0⟩, ⟨1, 1⟩, ⟨2, 2⟩, ⟨4, 4⟩, ⟨0, 0⟩, ⟨0, 0⟩, ⟨0, 0⟩, ⟨64, 64⟩, ⟨32, 32⟩, ⟨256, 256⟩, ⟨640, 640⟩, ⟨1024, 1024⟩, ⟨2072, 2072⟩] (.node 1 [⟨0, 0⟩, ⟨0, 0⟩, ⟨2, 2⟩, ⟨1, 1⟩, ⟨8, 8⟩, ⟨20, 20⟩, ⟨32, 32⟩, ⟨0, 0⟩, ⟨128, 128⟩, ⟨256, 256⟩, ⟨576, 576⟩, ⟨2047, 1024⟩] .nil .nil) .nil)
theorem rw44 : qKo Tryz.prog 44 rt44 := qZc Tryz.func44 (by kernel_rfl)
def rt45 : BT (List Row) := (.node 14 [⟨0, 0⟩, ⟨0, 0⟩, ⟨2, 2⟩, ⟨0, 0⟩, ⟨8, 8⟩, ⟨16, 16⟩, ⟨37, 37⟩] (.node 13 [⟨0, 0⟩, ⟨0, 0⟩, ⟨2, 2⟩, ⟨0, 0⟩, ⟨8, 8⟩, ⟨16, 16⟩, ⟨32, 32⟩, ⟨64, 64⟩, ⟨128, 128⟩, ⟨261, 261⟩] (.node 1 [⟨0, 0⟩, ⟨0, 0⟩, ⟨2, 2⟩, ⟨1, 1⟩, ⟨8, 8⟩, ⟨20, 20⟩, ⟨32, 32⟩, ⟨0, 0⟩, ⟨0, 0⟩, ⟨256, 256⟩, ⟨128, 128⟩, ⟨1024, 1024⟩, ⟨2560, 2560⟩, ⟨4096, 4096⟩, ⟨127, 64⟩, ⟨32767, 8192⟩] .nil .nil) .nil) (.node 16 [⟨0, 0⟩, ⟨0, 0⟩, ⟨2, 2⟩, ⟨4, 4⟩, ⟨8, 8⟩, ⟨0, 0⟩, ⟨32, 32⟩, ⟨64, 64⟩, ⟨145, 145⟩] .nil .nil))
theorem rw45 : qKo Tryz.prog 45 rt45 := qZc Tryz.func45 (by kernel_rfl)
def rt52 : BT (List Row) := (.node 13 [⟨0, 0⟩, ⟨1, 1⟩, ⟨2, 2⟩, ⟨4, 4⟩, ⟨8, 8⟩, ⟨0, 0⟩, ⟨32, 32⟩, ⟨80, 80⟩, ⟨128, 128⟩, ⟨511, 256⟩, ⟨1023, 0⟩] .nil .nil)
theorem rw52 : qKo Tryz.prog 52 rt52 := qZc Tryz.func52 (by kernel_rfl)
def rt69 : BT (List Row) := (.node 0 [⟨0, 0⟩, ⟨0, 0⟩, ⟨2, 2⟩, ⟨4, 4⟩, ⟨8, 8⟩, ⟨0, 0⟩, ⟨32, 32⟩, ⟨64, 64⟩, ⟨128, 128⟩, ⟨0, 0⟩, ⟨0, 0⟩, ⟨1792, 1792⟩, ⟨2048, 2048⟩, ⟨4112, 4112⟩, ⟨16383, 1⟩, ⟨32767, 16384⟩, ⟨49151, 40960⟩] .nil .nil)
theorem rw69 : qKo Tryz.prog 69 rt69 := qZc Tryz.func69 (by kernel_rfl)
def rt159 : BT (List Row) := (.node 1 [⟨0, 0⟩, ⟨0, 0⟩, ⟨3, 3⟩, ⟨4, 4⟩, ⟨0, 0⟩, ⟨0, 0⟩, ⟨48, 48⟩, ⟨64, 64⟩, ⟨136, 136⟩, ⟨511, 256⟩] .nil .nil)
theorem rw159 : qKo Tryz.prog 159 rt159 := qZc Tryz.func159 (by kernel_rfl)
def rt160 : BT (List Row) := (.node 0 [⟨0, 0⟩, ⟨0, 0⟩, ⟨0, 0⟩, ⟨0, 0⟩, ⟨0, 0⟩, ⟨0, 0⟩, ⟨48, 48⟩, ⟨64, 64⟩, ⟨0, 0⟩, ⟨0, 0⟩, ⟨768, 768⟩, ⟨1024, 1024⟩, ⟨2291, 3⟩, ⟨6387, 4224⟩, ⟨16383, 12⟩, ⟨32767, 18432⟩] .nil .nil)
theorem rw160 : qKo Tryz.prog 160 rt160 := qZc Tryz.func160 (by kernel_rfl)
def rtB : RowT := (.node 33 rt33 (.node 17 rt17 (.node 13 rt13 (.node 8 rt8 (.node 3 rt3 .nil .nil) .nil) (.node 14 rt14 .nil .nil)) (.node 27 rt27 (.node 23 rt23 (.node 19 rt19 .nil .nil) .nil) (.node 30 rt30 .nil .nil))) (.node 52 rt52 (.node 44 rt44 (.node 39 rt39 (.node 35 rt35 .nil .nil) .nil) (.node 45 rt45 .nil .nil)) (.node 159 rt159 (.node 69 rt69 .nil .nil) (.node 160 rt160 .nil .nil))))
theorem rtB_ok : RtsOk Tryz.prog (rtsB rtB) := rtsB_ok ⟨rw33, ⟨rw17, ⟨rw13, ⟨rw8, ⟨rw3, trivial, trivial⟩, trivial⟩, ⟨rw14, trivial, trivial⟩⟩, ⟨rw27, ⟨rw23, ⟨rw19, trivial, trivial⟩, trivial⟩, ⟨rw30, trivial, trivial⟩⟩⟩, ⟨rw52, ⟨rw44, ⟨rw39, ⟨rw35, trivial, trivial⟩, trivial⟩, ⟨rw45, trivial, trivial⟩⟩, ⟨rw159, ⟨rw69, trivial, trivial⟩, ⟨rw160, trivial, trivial⟩⟩⟩⟩

theorem own : ownKnob Tryz.prog.godebug = none := by kernel_rfl
theorem laidOut : laidOutB Tryz.prog = true := by kernel_rfl
theorem nogo : (Tryz.prog.funcs.all fun fn => fn.name != "runtime.NumGoroutine") = true := by kernel_rfl
theorem mixedOk : Tryz.prog.follows .mixedOrders = true := by kernel_rfl
/-- the types whose values are compared with no panic -/
noncomputable def seqB (t : TypeId) : Bool := !Tryz.prog.eqGuardType Tryz.prog.depth t && !Tryz.prog.stoodInHeld t
/-- the tables that the row lays, as rows that come in -/
def tabsL : List InD := [⟨[.int .i64], qQn [.c 1, .c 1, .c 1, .c 1, .c 1, .c 1, .c 1, .c 1, .c 1, .c 1, .c 1, .c 1, .c 1, .c 1, .c 1, .c 1, .c 1, .c 3, .c 3, .c 3, .c 3, .c 2, .c 2, .c 1, .c 1, .c 1, .c 1, .c 1, .c 1, .c 1, .c 1, .c 1, .c 1, .c 2, .c 2, .c 1, .c 1, .c 1, .c 3, .c 3, .c 3, .c 1, .c 1], .c 43, .c 43, some 0⟩]
/-- n: how deep a number may be without a name (0: none is named) -/
noncomputable def cxOf (n : Nat) : Cx :=
  { P := Tryz.prog, Γ := [], Φ := phiN, F := fN, lf := lfN, ins := [], tabs := tabsL, sh := n, und := undB tyB, inf := infB tyB, fn := fnB fuB, seq := seqB,
    undOk := undB_ok tyB_ok, infOk := fun _ _ h => BT.find_all tyB_ok h, fnOk := fun _ _ h => BT.find_all fuB_ok h,
    seqOk := fun t h => by unfold seqB at h; simpa using h }
theorem cxOf_ok (n : Nat) (m : Rc) : CxOk (m.cx (cxOf n)) :=
  ⟨mixedOk, fun f fn h => by
    have h1 := Array.all_eq_true.1 nogo
    obtain ⟨h2, h3⟩ := Array.getElem?_eq_some_iff.1 h
    have := h1 f h2
    have h4 : (Tryz.prog.funcs[f]'h2) = fn := h3
    rw [h4] at this
    simpa using this⟩
/-- the same, with what comes in -/
noncomputable def cxG (n : Nat) (Γ : List (Int × Int)) (ins : List InD) : Cx := { cxOf n with Γ := Γ, ins := ins ++ tabsL }
theorem tabsAll : (tabsL.all fun d => d.c.vb 0 && (d.n.vb 0 && d.cap.vb 0)) = true := by kernel_rfl
theorem tabsG (n : Nat) (Γ : List (Int × Int)) (ins : List InD) : TabsOk (cxG n Γ ins) := ⟨⟨ins, rfl⟩, fun d hd => by have := List.all_eq_true.1 tabsAll d hd; simp only [Bool.and_eq_true] at this; exact this⟩
theorem cxG_ok (n : Nat) (Γ : List (Int × Int)) (ins : List InD) : CxOk (cxG n Γ ins) :=
  ⟨mixedOk, fun f fn h => by
    have h1 := Array.all_eq_true.1 nogo
    obtain ⟨h2, h3⟩ := Array.getElem?_eq_some_iff.1 h
    have := h1 f h2
    have h4 : (Tryz.prog.funcs[f]'h2) = fn := h3
    rw [h4] at this
    simpa using this⟩
/-- a contract holds however much is named, and whatever else comes in -/
theorem rc_n {n k : Nat} {Γ : List (Int × Int)} {ins : List InD} {m : Rc} (h : RcOk (cxOf n) m) : RcOk (cxG k Γ ins) m :=
  fun ρ w hρ hc hp hr => h ρ w ⟨hρ.hi, hρ.hf, hρ.hv, hρ.hF, hρ.hP, hρ.hro⟩ hc hp hr
theorem rh_n {n k : Nat} {Γ : List (Int × Int)} {ins : List InD} {m : Rh} (h : RhOk (cxOf n) m) : RhOk (cxG k Γ ins) m :=
  fun ρ β w hρ hp hs => h ρ β w ⟨hρ.hi, hρ.hf, hρ.hv, hρ.hF, hρ.hP, hρ.hro⟩ hp hs
theorem mg {α : Type} {l : List α} {a : α} (i : Nat) (h : l[i]? = some a) : a ∈ l := List.mem_of_getElem? h
/-- the engine's runs -/
abbrev SMs := List (Int × Int) → List InD → Nat → SM
def SMsOk (sm : SMs) : Prop := ∀ Γ ins n, SmOk (cxG n Γ ins) (sm Γ ins n)
noncomputable def runC (sm : SMs) (Γ : List (Int × Int)) (ins : List InD) (n : Nat) : CF := execFn (cxG n Γ ins) (rtsB rtB) (sm Γ ins n) (fun _ _ => none) 40 30
theorem xok0 (cx : Cx) : XOk cx (fun _ _ => none) := fun _ _ _ _ _ _ _ h => by cases h
theorem runC_ok {sm : SMs} (h : SMsOk sm) (Γ : List (Int × Int)) (ins : List InD) (n : Nat) : qKp (cxG n Γ ins) (runC sm Γ ins n) := execFn_ok (cxG_ok n Γ ins) rtB_ok (h Γ ins n) (xok0 _) _
noncomputable def runG (sm : SMs) (lhs : LHS) (Γ : List (Int × Int)) (ins : List InD) (n : Nat) : CFT := execFnT (cxG n Γ ins) (rtsB rtB) (sm Γ ins n) (fun _ _ => none) lhs (runC sm Γ ins n) 40 30
theorem runG_ok {sm : SMs} (h : SMsOk sm) (lhs : LHS) (Γ : List (Int × Int)) (ins : List InD) (n : Nat) : qJw (cxG n Γ ins) (runG sm lhs Γ ins n) :=
  execFnT_ok (cxG_ok n Γ ins) rtB_ok (h Γ ins n) (xok0 _) (runC_ok h Γ ins n) _
noncomputable def runT (sm : SMs) (lhs : LHS) (m : Rc) (n : Nat) : CFT := runG sm lhs (bdsF m.ls) (qXh m.b m.c m.ls 0 0 0) n
theorem runT_ok {sm : SMs} (h : SMsOk sm) (lhs : LHS) (m : Rc) (n : Nat) : qJw (m.cx (cxOf n)) (runT sm lhs m n) := runG_ok h lhs _ _ n
noncomputable def runH (sm : SMs) (lhs : LHS) (m : Rk) (n : Nat) : CFT := runG sm lhs m.Γ m.ins n
theorem runH_ok {sm : SMs} (h : SMsOk sm) (lhs : LHS) (m : Rk) (n : Nat) : qJw (m.rh.cx (cxOf n)) (runH sm lhs m n) := runG_ok h lhs m.Γ m.ins n
/-! the parts of a contract's proof -/
noncomputable def fineR (n : Nat) (m : Rc) (t : TT (List E)) : Bool := TT.fine (m.cx (cxOf n)) 1000 [] t && (m.cx (cxOf n)).okB 1000 && SV.vbL 1000 m.args && TT.tidy (m.cx (cxOf n)) [] t
noncomputable def ranR (us : SMs) (lhs : LHS) (m : Rc) (n : Nat) (t : TT (List E)) : Bool := TT.beq (projL (m.pj (cxOf n)) (runT us lhs m n m.f m.args ⟨[], []⟩)) t
def statR (n : Nat) (m : Rc) (t : TT (List E)) (ρ : Env) : Prop := TT.hdP (m.cx (cxOf n)) (rlF ρ m.res) t ρ
theorem okR {us : SMs} {lhs : LHS} {m : Rc} {n : Nat} {t : TT (List E)} (hu : SMsOk us) (h1 : ranR us lhs m n t = true) (h2 : fineR n m t = true) (h3 : m.ok = true)
    (h : ∀ i v ro p, EnvOk (m.cx (cxOf n)) ⟨i, fN, v, ro, p⟩ → (∀ d ∈ qXh m.b m.c m.ls 0 0 0, d.n.ev ⟨i, fN, v, ro, p⟩ ≤ d.cap.ev ⟨i, fN, v, ro, p⟩) → (∀ e ∈ m.pre, e.evP ⟨i, fN, v, ro, p⟩ ≠ 0) → statR n m t ⟨i, fN, v, ro, p⟩) : RcOk (cxOf n) m :=
  rc_run (runT_ok hu lhs m n) h1 h2 h3 fun ρ hρ hcap hpre => by
    obtain ⟨i, f, v, ro, p⟩ := ρ
    have hf : f = fN := hρ.hF
    subst hf
    exact h i v ro p hρ hcap hpre
noncomputable def fineH (n : Nat) (m : Rk) (t : TT (List E)) : Bool := TT.fine (m.rh.cx (cxOf n)) 1000 [] t && (m.rh.cx (cxOf n)).okB 1000 && SV.vbL 1000 m.args && TT.tidy (m.rh.cx (cxOf n)) [] t
noncomputable def ranH (us : SMs) (lhs : LHS) (m : Rk) (n : Nat) (t : TT (List E)) : Bool := TT.beq (projL (m.pj (cxOf n)) (runH us lhs m n m.f m.args ⟨m.inb, m.kn0⟩)) t
def statH (n : Nat) (m : Rk) (t : TT (List E)) (ρ : Env) : Prop := TT.hdP (m.rh.cx (cxOf n)) (rsF ρ m.rs) t ρ
theorem okH {us : SMs} {lhs : LHS} {m : Rk} {n : Nat} {t : TT (List E)} (hu : SMsOk us) (h1 : ranH us lhs m n t = true) (h2 : fineH n m t = true) (h4 : blVb 1000 m.inb = true) (h3 : m.ok = true)
    (h : ∀ i v ro p, EnvOk (m.rh.cx (cxOf n)) ⟨i, fN, v, ro, p⟩ → (∀ e ∈ m.pre, e.evP ⟨i, fN, v, ro, p⟩ ≠ 0) → statH n m t ⟨i, fN, v, ro, p⟩) : RhOk (cxOf n) m.rh :=
  rk_run (runH_ok hu lhs m n) h1 h2 h4 h3 fun ρ hρ hpre => by
    obtain ⟨i, f, v, ro, p⟩ := ρ
    have hf : f = fN := hρ.hF
    subst hf
    exact h i v ro p hρ hpre
theorem den_row (ρ : Env) (β : Bt) (k z i j : Nat) : (SV.sl (.inp k) z (.c 0) (.v i) (some (.v j))).den ρ β = .slice (ρ.ro k).a (ρ.i i).toNat (ρ.i j).toNat := by
  simp only [SV.den, E.ev, map_addr_zero]
end Go.Proofs.YteimodjkllldlafGreatDoor
