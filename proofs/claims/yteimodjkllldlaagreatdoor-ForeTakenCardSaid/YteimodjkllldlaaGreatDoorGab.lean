/-
  The program's tables of types, of functions and of all regions that draw their order, as trees; the engine at this program. Printed by program.
-/
import Derived.Test.YteimodjkllldlaaGreatDoorGu5
import Derived.Test.YteimodjkllldlaaGreatDoorRows
import Derived.WalkKit
import Derived.ProofKit
set_option linter.unusedVariables false
set_option linter.unusedSimpArgs false
namespace Go.Proofs.YteimodjkllldlaaGreatDoor
open Go Go.Eng Go.RowKit
set_option maxRecDepth 100000
noncomputable def tyB : BT TypeInfo := (.node 50 Tryz.t50 (.node 29 Tryz.t29 (.node 22 Tryz.t22 (.node 5 Tryz.t5 (.node 3 Tryz.t3 (.node 2 Tryz.t2 .nil .nil) (.node 4 Tryz.t4 .nil .nil)) (.node 21 Tryz.t21 (.node 9 Tryz.t9 .nil .nil) .nil)) (.node 25 Tryz.t25 (.node 24 Tryz.t24 (.node 23 Tryz.t23 .nil .nil) .nil) (.node 27 Tryz.t27 (.node 26 Tryz.t26 .nil .nil) .nil))) (.node 42 Tryz.t42 (.node 34 Tryz.t34 (.node 33 Tryz.t33 (.node 32 Tryz.t32 .nil .nil) .nil) (.node 38 Tryz.t38 (.node 37 Tryz.t37 .nil .nil) .nil)) (.node 47 Tryz.t47 (.node 44 Tryz.t44 (.node 43 Tryz.t43 .nil .nil) .nil) (.node 49 Tryz.t49 (.node 48 Tryz.t48 .nil .nil) .nil)))) (.node 87 Tryz.t87 (.node 58 Tryz.t58 (.node 53 Tryz.t53 (.node 52 Tryz.t52 (.node 51 Tryz.t51 .nil .nil) .nil) (.node 55 Tryz.t55 (.node 54 Tryz.t54 .nil .nil) .nil)) (.node 64 Tryz.t64 (.node 63 Tryz.t63 (.node 62 Tryz.t62 .nil .nil) .nil) (.node 85 Tryz.t85 (.node 78 Tryz.t78 .nil .nil) .nil))) (.node 116 Tryz.t116 (.node 90 Tryz.t90 (.node 89 Tryz.t89 (.node 88 Tryz.t88 .nil .nil) .nil) (.node 115 Tryz.t115 (.node 95 Tryz.t95 .nil .nil) .nil)) (.node 161 Tryz.t161 (.node 160 Tryz.t160 (.node 137 Tryz.t137 .nil .nil) .nil) (.node 163 Tryz.t163 (.node 162 Tryz.t162 .nil .nil) .nil)))))
theorem tyB_ok : tyB.All fun i v => Tryz.prog.info? i = some v := ⟨Tryz.type50, ⟨Tryz.type29, ⟨Tryz.type22, ⟨Tryz.type5, ⟨Tryz.type3, ⟨Tryz.type2, trivial, trivial⟩, ⟨Tryz.type4, trivial, trivial⟩⟩, ⟨Tryz.type21, ⟨Tryz.type9, trivial, trivial⟩, trivial⟩⟩, ⟨Tryz.type25, ⟨Tryz.type24, ⟨Tryz.type23, trivial, trivial⟩, trivial⟩, ⟨Tryz.type27, ⟨Tryz.type26, trivial, trivial⟩, trivial⟩⟩⟩, ⟨Tryz.type42, ⟨Tryz.type34, ⟨Tryz.type33, ⟨Tryz.type32, trivial, trivial⟩, trivial⟩, ⟨Tryz.type38, ⟨Tryz.type37, trivial, trivial⟩, trivial⟩⟩, ⟨Tryz.type47, ⟨Tryz.type44, ⟨Tryz.type43, trivial, trivial⟩, trivial⟩, ⟨Tryz.type49, ⟨Tryz.type48, trivial, trivial⟩, trivial⟩⟩⟩⟩, ⟨Tryz.type87, ⟨Tryz.type58, ⟨Tryz.type53, ⟨Tryz.type52, ⟨Tryz.type51, trivial, trivial⟩, trivial⟩, ⟨Tryz.type55, ⟨Tryz.type54, trivial, trivial⟩, trivial⟩⟩, ⟨Tryz.type64, ⟨Tryz.type63, ⟨Tryz.type62, trivial, trivial⟩, trivial⟩, ⟨Tryz.type85, ⟨Tryz.type78, trivial, trivial⟩, trivial⟩⟩⟩, ⟨Tryz.type116, ⟨Tryz.type90, ⟨Tryz.type89, ⟨Tryz.type88, trivial, trivial⟩, trivial⟩, ⟨Tryz.type115, ⟨Tryz.type95, trivial, trivial⟩, trivial⟩⟩, ⟨Tryz.type161, ⟨Tryz.type160, ⟨Tryz.type137, trivial, trivial⟩, trivial⟩, ⟨Tryz.type163, ⟨Tryz.type162, trivial, trivial⟩, trivial⟩⟩⟩⟩⟩
noncomputable def fuB : BT Func := (.node 61 Tryz.f61 (.node 31 Tryz.f31 (.node 17 Tryz.f17 (.node 10 Tryz.f10 (.node 6 Tryz.f6 (.node 4 Tryz.f4 (.node 3 Tryz.f3 .nil .nil) (.node 5 Tryz.f5 .nil .nil)) (.node 8 Tryz.f8 (.node 7 Tryz.f7 .nil .nil) (.node 9 Tryz.f9 .nil .nil))) (.node 14 Tryz.f14 (.node 12 Tryz.f12 (.node 11 Tryz.f11 .nil .nil) (.node 13 Tryz.f13 .nil .nil)) (.node 16 Tryz.f16 (.node 15 Tryz.f15 .nil .nil) .nil))) (.node 24 Tryz.f24 (.node 21 Tryz.f21 (.node 19 Tryz.f19 (.node 18 Tryz.f18 .nil .nil) (.node 20 Tryz.f20 .nil .nil)) (.node 23 Tryz.f23 (.node 22 Tryz.f22 .nil .nil) .nil)) (.node 28 Tryz.f28 (.node 26 Tryz.f26 (.node 25 Tryz.f25 .nil .nil) (.node 27 Tryz.f27 .nil .nil)) (.node 30 Tryz.f30 (.node 29 Tryz.f29 .nil .nil) .nil)))) (.node 45 Tryz.f45 (.node 38 Tryz.f38 (.node 35 Tryz.f35 (.node 33 Tryz.f33 (.node 32 Tryz.f32 .nil .nil) (.node 34 Tryz.f34 .nil .nil)) (.node 37 Tryz.f37 (.node 36 Tryz.f36 .nil .nil) .nil)) (.node 42 Tryz.f42 (.node 40 Tryz.f40 (.node 39 Tryz.f39 .nil .nil) (.node 41 Tryz.f41 .nil .nil)) (.node 44 Tryz.f44 (.node 43 Tryz.f43 .nil .nil) .nil))) (.node 52 Tryz.f52 (.node 49 Tryz.f49 (.node 47 Tryz.f47 (.node 46 Tryz.f46 .nil .nil) (.node 48 Tryz.f48 .nil .nil)) (.node 51 Tryz.f51 (.node 50 Tryz.f50 .nil .nil) .nil)) (.node 58 Tryz.f58 (.node 54 Tryz.f54 (.node 53 Tryz.f53 .nil .nil) (.node 55 Tryz.f55 .nil .nil)) (.node 60 Tryz.f60 (.node 59 Tryz.f59 .nil .nil) .nil))))) (.node 101 Tryz.f101 (.node 86 Tryz.f86 (.node 70 Tryz.f70 (.node 67 Tryz.f67 (.node 65 Tryz.f65 (.node 62 Tryz.f62 .nil .nil) (.node 66 Tryz.f66 .nil .nil)) (.node 69 Tryz.f69 (.node 68 Tryz.f68 .nil .nil) .nil)) (.node 74 Tryz.f74 (.node 72 Tryz.f72 (.node 71 Tryz.f71 .nil .nil) (.node 73 Tryz.f73 .nil .nil)) (.node 76 Tryz.f76 (.node 75 Tryz.f75 .nil .nil) .nil))) (.node 94 Tryz.f94 (.node 91 Tryz.f91 (.node 89 Tryz.f89 (.node 87 Tryz.f87 .nil .nil) (.node 90 Tryz.f90 .nil .nil)) (.node 93 Tryz.f93 (.node 92 Tryz.f92 .nil .nil) .nil)) (.node 98 Tryz.f98 (.node 96 Tryz.f96 (.node 95 Tryz.f95 .nil .nil) (.node 97 Tryz.f97 .nil .nil)) (.node 100 Tryz.f100 (.node 99 Tryz.f99 .nil .nil) .nil)))) (.node 123 Tryz.f123 (.node 116 Tryz.f116 (.node 113 Tryz.f113 (.node 103 Tryz.f103 (.node 102 Tryz.f102 .nil .nil) (.node 112 Tryz.f112 .nil .nil)) (.node 115 Tryz.f115 (.node 114 Tryz.f114 .nil .nil) .nil)) (.node 120 Tryz.f120 (.node 118 Tryz.f118 (.node 117 Tryz.f117 .nil .nil) (.node 119 Tryz.f119 .nil .nil)) (.node 122 Tryz.f122 (.node 121 Tryz.f121 .nil .nil) .nil))) (.node 131 Tryz.f131 (.node 128 Tryz.f128 (.node 125 Tryz.f125 (.node 124 Tryz.f124 .nil .nil) (.node 127 Tryz.f127 .nil .nil)) (.node 130 Tryz.f130 (.node 129 Tryz.f129 .nil .nil) .nil)) (.node 135 Tryz.f135 (.node 133 Tryz.f133 (.node 132 Tryz.f132 .nil .nil) (.node 134 Tryz.f134 .nil .nil)) (.node 137 Tryz.f137 (.node 136 Tryz.f136 .nil .nil) .nil))))))
theorem fuB_ok : fuB.All fun i v => Tryz.prog.funcs[i]? = some v := ⟨Tryz.func61, ⟨Tryz.func31, ⟨Tryz.func17, ⟨Tryz.func10, ⟨Tryz.func6, ⟨Tryz.func4, ⟨Tryz.func3, trivial, trivial⟩, ⟨Tryz.func5, trivial, trivial⟩⟩, ⟨Tryz.func8, ⟨Tryz.func7, trivial, trivial⟩, ⟨Tryz.func9, trivial, trivial⟩⟩⟩, ⟨Tryz.func14, ⟨Tryz.func12, ⟨Tryz.func11, trivial, trivial⟩, ⟨Tryz.func13, trivial, trivial⟩⟩, ⟨Tryz.func16, ⟨Tryz.func15, trivial, trivial⟩, trivial⟩⟩⟩, ⟨Tryz.func24, ⟨Tryz.func21, ⟨Tryz.func19, ⟨Tryz.func18, trivial, trivial⟩, ⟨Tryz.func20, trivial, trivial⟩⟩, ⟨Tryz.func23, ⟨Tryz.func22, trivial, trivial⟩, trivial⟩⟩, ⟨Tryz.func28, ⟨Tryz.func26, ⟨Tryz.func25, trivial, trivial⟩, ⟨Tryz.func27, trivial, trivial⟩⟩, ⟨Tryz.func30, ⟨Tryz.func29, trivial, trivial⟩, trivial⟩⟩⟩⟩, ⟨Tryz.func45, ⟨Tryz.func38, ⟨Tryz.func35, ⟨Tryz.func33, ⟨Tryz.func32, trivial, trivial⟩, ⟨Tryz.func34, trivial, trivial⟩⟩, ⟨Tryz.func37, ⟨Tryz.func36, trivial, trivial⟩, trivial⟩⟩, ⟨Tryz.func42, ⟨Tryz.func40, ⟨Tryz.func39, trivial, trivial⟩, ⟨Tryz.func41, trivial, trivial⟩⟩, ⟨Tryz.func44, ⟨Tryz.func43, trivial, trivial⟩, trivial⟩⟩⟩, ⟨Tryz.func52, ⟨Tryz.func49, ⟨Tryz.func47, ⟨Tryz.func46, trivial, trivial⟩, ⟨Tryz.func48, trivial, trivial⟩⟩, ⟨Tryz.func51, ⟨Tryz.func50, trivial, trivial⟩, trivial⟩⟩, ⟨Tryz.func58, ⟨Tryz.func54, ⟨Tryz.func53, trivial, trivial⟩, ⟨Tryz.func55, trivial, trivial⟩⟩, ⟨Tryz.func60, ⟨Tryz.func59, trivial, trivial⟩, trivial⟩⟩⟩⟩⟩, ⟨Tryz.func101, ⟨Tryz.func86, ⟨Tryz.func70, ⟨Tryz.func67, ⟨Tryz.func65, ⟨Tryz.func62, trivial, trivial⟩, ⟨Tryz.func66, trivial, trivial⟩⟩, ⟨Tryz.func69, ⟨Tryz.func68, trivial, trivial⟩, trivial⟩⟩, ⟨Tryz.func74, ⟨Tryz.func72, ⟨Tryz.func71, trivial, trivial⟩, ⟨Tryz.func73, trivial, trivial⟩⟩, ⟨Tryz.func76, ⟨Tryz.func75, trivial, trivial⟩, trivial⟩⟩⟩, ⟨Tryz.func94, ⟨Tryz.func91, ⟨Tryz.func89, ⟨Tryz.func87, trivial, trivial⟩, ⟨Tryz.func90, trivial, trivial⟩⟩, ⟨Tryz.func93, ⟨Tryz.func92, trivial, trivial⟩, trivial⟩⟩, ⟨Tryz.func98, ⟨Tryz.func96, ⟨Tryz.func95, trivial, trivial⟩, ⟨Tryz.func97, trivial, trivial⟩⟩, ⟨Tryz.func100, ⟨Tryz.func99, trivial, trivial⟩, trivial⟩⟩⟩⟩, ⟨Tryz.func123, ⟨Tryz.func116, ⟨Tryz.func113, ⟨Tryz.func103, ⟨Tryz.func102, trivial, trivial⟩, ⟨Tryz.func112, trivial, trivial⟩⟩, ⟨Tryz.func115, ⟨Tryz.func114, trivial, trivial⟩, trivial⟩⟩, ⟨Tryz.func120, ⟨Tryz.func118, ⟨Tryz.func117, trivial, trivial⟩, ⟨Tryz.func119, trivial, trivial⟩⟩, ⟨Tryz.func122, ⟨Tryz.func121, trivial, trivial⟩, trivial⟩⟩⟩, ⟨Tryz.func131, ⟨Tryz.func128, ⟨Tryz.func125, ⟨Tryz.func124, trivial, trivial⟩, ⟨Tryz.func127, trivial, trivial⟩⟩, ⟨Tryz.func130, ⟨Tryz.func129, trivial, trivial⟩, trivial⟩⟩, ⟨Tryz.func135, ⟨Tryz.func133, ⟨Tryz.func132, trivial, trivial⟩, ⟨Tryz.func134, trivial, trivial⟩⟩, ⟨Tryz.func137, ⟨Tryz.func136, trivial, trivial⟩, trivial⟩⟩⟩⟩⟩⟩
def rt5 : BT (List Row) := (.node 11 [⟨0, 0⟩, ⟨1, 1⟩, ⟨0, 0⟩, ⟨6, 6⟩, ⟨8, 8⟩, ⟨0, 0⟩, ⟨32, 32⟩, ⟨0, 0⟩, ⟨192, 192⟩, ⟨256, 256⟩, ⟨528, 528⟩] .nil .nil)
theorem rw5 : RowAt Tryz.prog 5 rt5 := qZn Tryz.func5 (by kernel_rfl)
def rt7 : BT (List Row) := (.node 11 [⟨0, 0⟩, ⟨1, 1⟩, ⟨2, 2⟩, ⟨4, 4⟩, ⟨0, 0⟩, ⟨16, 16⟩, ⟨32, 32⟩, ⟨64, 64⟩, ⟨128, 128⟩, ⟨264, 264⟩, ⟨512, 512⟩, ⟨1024, 1024⟩, ⟨2048, 2048⟩, ⟨4096, 4096⟩] (.node 9 [⟨0, 0⟩, ⟨1, 1⟩, ⟨2, 2⟩, ⟨4, 4⟩, ⟨8, 8⟩, ⟨16, 16⟩, ⟨32, 32⟩, ⟨64, 64⟩, ⟨192, 192⟩, ⟨320, 320⟩, ⟨576, 576⟩, ⟨1088, 1088⟩, ⟨64, 64⟩, ⟨4160, 4160⟩, ⟨8256, 8256⟩, ⟨16448, 16448⟩, ⟨32832, 32832⟩, ⟨67648, 67648⟩, ⟨131136, 131136⟩, ⟨262208, 262144⟩] (.node 7 [⟨0, 0⟩, ⟨0, 0⟩, ⟨2, 2⟩, ⟨4, 4⟩, ⟨8, 8⟩, ⟨0, 0⟩, ⟨32, 32⟩, ⟨64, 64⟩, ⟨128, 128⟩, ⟨256, 256⟩, ⟨528, 528⟩, ⟨1024, 1024⟩, ⟨2049, 2049⟩] .nil .nil) .nil) (.node 13 [⟨0, 0⟩, ⟨0, 0⟩, ⟨2, 2⟩, ⟨4, 4⟩, ⟨8, 8⟩, ⟨0, 0⟩, ⟨32, 32⟩, ⟨64, 64⟩, ⟨128, 128⟩, ⟨256, 256⟩, ⟨528, 528⟩, ⟨1024, 1024⟩, ⟨2049, 2049⟩, ⟨4096, 4096⟩, ⟨12288, 8192⟩] .nil .nil))
theorem rw7 : RowAt Tryz.prog 7 rt7 := qZn Tryz.func7 (by kernel_rfl)
def rt8 : BT (List Row) := (.node 14 [⟨0, 0⟩, ⟨0, 0⟩, ⟨3, 3⟩, ⟨4, 4⟩, ⟨8, 8⟩, ⟨16, 16⟩, ⟨32, 32⟩, ⟨96, 96⟩, ⟨160, 160⟩, ⟨288, 256⟩, ⟨512, 512⟩, ⟨512, 512⟩, ⟨512, 512⟩, ⟨512, 512⟩, ⟨12800, 12800⟩, ⟨16896, 16896⟩, ⟨36352, 36352⟩, ⟨66048, 66048⟩] (.node 7 [⟨0, 0⟩, ⟨1, 1⟩, ⟨0, 0⟩, ⟨4, 4⟩, ⟨0, 0⟩, ⟨24, 24⟩, ⟨32, 32⟩, ⟨66, 66⟩, ⟨128, 128⟩, ⟨256, 256⟩] .nil .nil) .nil)
theorem rw8 : RowAt Tryz.prog 8 rt8 := qZn Tryz.func8 (by kernel_rfl)
def rt10 : BT (List Row) := (.node 12 [⟨0, 0⟩, ⟨1, 1⟩, ⟨2, 2⟩, ⟨0, 0⟩, ⟨8, 8⟩, ⟨16, 16⟩, ⟨36, 36⟩, ⟨66, 64⟩] .nil .nil)
theorem rw10 : RowAt Tryz.prog 10 rt10 := qZn Tryz.func10 (by kernel_rfl)
def rt11 : BT (List Row) := (.node 11 [⟨0, 0⟩, ⟨0, 0⟩, ⟨0, 0⟩, ⟨1, 1⟩, ⟨8, 8⟩, ⟨23, 18⟩, ⟨39, 36⟩] (.node 6 [⟨0, 0⟩, ⟨0, 0⟩, ⟨2, 2⟩, ⟨4, 4⟩, ⟨8, 8⟩, ⟨0, 0⟩, ⟨32, 32⟩, ⟨80, 80⟩, ⟨255, 1⟩, ⟨511, 256⟩, ⟨767, 640⟩] .nil .nil) (.node 19 [⟨0, 0⟩, ⟨0, 0⟩, ⟨2, 2⟩, ⟨4, 4⟩, ⟨8, 8⟩, ⟨0, 0⟩, ⟨32, 32⟩, ⟨80, 80⟩, ⟨255, 1⟩, ⟨511, 256⟩, ⟨767, 640⟩] .nil .nil))
theorem rw11 : RowAt Tryz.prog 11 rt11 := qZn Tryz.func11 (by kernel_rfl)
def rt12 : BT (List Row) := (.node 1 [⟨0, 0⟩, ⟨0, 0⟩, ⟨2, 2⟩, ⟨1, 1⟩, ⟨8, 8⟩, ⟨20, 20⟩, ⟨32, 32⟩, ⟨64, 64⟩, ⟨0, 0⟩, ⟨0, 0⟩, ⟨512, 512⟩, ⟨256, 256⟩, ⟨2048, 2048⟩, ⟨5120, 5120⟩, ⟨8192, 8192⟩, ⟨16384, 16384⟩, ⟨0, 0⟩, ⟨0, 0⟩, ⟨131072, 131072⟩, ⟨65536, 65536⟩, ⟨524288, 524288⟩, ⟨1310720, 1310720⟩, ⟨2097152, 2097152⟩, ⟨4194304, 4194304⟩, ⟨255, 128⟩, ⟨16842751, 32768⟩, ⟨67108863, 8388608⟩] .nil .nil)
theorem rw12 : RowAt Tryz.prog 12 rt12 := qZn Tryz.func12 (by kernel_rfl)
def rt13 : BT (List Row) := (.node 9 [⟨0, 0⟩, ⟨0, 0⟩, ⟨2, 2⟩, ⟨0, 0⟩, ⟨0, 0⟩, ⟨16, 16⟩, ⟨8, 8⟩, ⟨64, 64⟩, ⟨160, 160⟩, ⟨256, 256⟩, ⟨0, 0⟩, ⟨1536, 1536⟩, ⟨2053, 2053⟩] (.node 6 [⟨0, 0⟩, ⟨0, 0⟩, ⟨2, 2⟩, ⟨0, 0⟩, ⟨0, 0⟩, ⟨16, 16⟩, ⟨8, 8⟩, ⟨64, 64⟩, ⟨160, 160⟩, ⟨256, 256⟩, ⟨0, 0⟩, ⟨1536, 1536⟩, ⟨2053, 2053⟩] .nil .nil) (.node 12 [⟨0, 0⟩, ⟨0, 0⟩, ⟨2, 2⟩, ⟨0, 0⟩, ⟨8, 8⟩, ⟨16, 16⟩, ⟨32, 32⟩, ⟨64, 64⟩, ⟨128, 128⟩, ⟨261, 261⟩] .nil .nil))
theorem rw13 : RowAt Tryz.prog 13 rt13 := qZn Tryz.func13 (by kernel_rfl)
def rt14 : BT (List Row) := (.node 23 [⟨0, 0⟩, ⟨0, 0⟩, ⟨0, 0⟩, ⟨6, 6⟩, ⟨8, 8⟩, ⟨0, 0⟩, ⟨0, 0⟩, ⟨0, 0⟩, ⟨192, 192⟩, ⟨256, 256⟩, ⟨512, 512⟩, ⟨1024, 1024⟩, ⟨1024, 1024⟩, ⟨7168, 7168⟩, ⟨9216, 9216⟩, ⟨17408, 17408⟩, ⟨17, 17⟩, ⟨65536, 65536⟩, ⟨196607, 131104⟩, ⟨327679, 294912⟩] (.node 12 [⟨0, 0⟩, ⟨0, 0⟩, ⟨0, 0⟩, ⟨0, 0⟩, ⟨12, 12⟩, ⟨16, 16⟩, ⟨35, 35⟩, ⟨0, 0⟩, ⟨255, 192⟩] .nil .nil) (.node 24 [⟨0, 0⟩, ⟨1, 1⟩, ⟨2, 2⟩, ⟨2, 2⟩, ⟨2, 2⟩, ⟨26, 26⟩, ⟨34, 34⟩, ⟨70, 70⟩, ⟨130, 130⟩, ⟨2, 2⟩, ⟨770, 770⟩, ⟨1026, 1026⟩, ⟨4095, 2049⟩] .nil .nil))
theorem rw14 : RowAt Tryz.prog 14 rt14 := qZn Tryz.func14 (by kernel_rfl)
def rt16 : BT (List Row) := (.node 1 [⟨0, 0⟩, ⟨1, 1⟩, ⟨0, 0⟩, ⟨6, 6⟩, ⟨8, 8⟩, ⟨0, 0⟩, ⟨32, 32⟩, ⟨0, 0⟩, ⟨192, 192⟩, ⟨256, 256⟩, ⟨0, 0⟩, ⟨1024, 1024⟩, ⟨0, 0⟩, ⟨6144, 6144⟩, ⟨8192, 8192⟩, ⟨31, 16⟩, ⟨33791, 512⟩, ⟨131071, 16384⟩] .nil .nil)
theorem rw16 : RowAt Tryz.prog 16 rt16 := qZn Tryz.func16 (by kernel_rfl)
def rt21 : BT (List Row) := (.node 11 [⟨0, 0⟩, ⟨0, 0⟩, ⟨3, 3⟩, ⟨4, 4⟩, ⟨0, 0⟩, ⟨0, 0⟩, ⟨32, 32⟩, ⟨80, 80⟩, ⟨128, 128⟩, ⟨264, 264⟩] (.node 6 [⟨0, 0⟩, ⟨0, 0⟩, ⟨3, 3⟩, ⟨4, 4⟩, ⟨0, 0⟩, ⟨0, 0⟩, ⟨32, 32⟩, ⟨80, 80⟩, ⟨128, 128⟩, ⟨264, 264⟩] .nil .nil) .nil)
theorem rw21 : RowAt Tryz.prog 21 rt21 := qZn Tryz.func21 (by kernel_rfl)
def rt26 : BT (List Row) := (.node 6 [⟨0, 0⟩, ⟨0, 0⟩, ⟨2, 2⟩, ⟨0, 0⟩, ⟨0, 0⟩, ⟨0, 0⟩, ⟨56, 56⟩, ⟨69, 69⟩] (.node 1 [⟨0, 0⟩, ⟨0, 0⟩, ⟨2, 2⟩, ⟨1, 1⟩, ⟨8, 8⟩, ⟨20, 20⟩, ⟨32, 32⟩, ⟨0, 0⟩, ⟨0, 0⟩, ⟨256, 256⟩, ⟨128, 128⟩, ⟨1024, 1024⟩, ⟨2560, 2560⟩, ⟨4096, 4096⟩, ⟨0, 0⟩, ⟨0, 0⟩, ⟨49279, 16448⟩, ⟨131071, 40960⟩] .nil .nil) (.node 7 [⟨0, 0⟩, ⟨0, 0⟩, ⟨2, 2⟩, ⟨4, 4⟩, ⟨8, 8⟩, ⟨16, 16⟩, ⟨32, 32⟩, ⟨0, 0⟩, ⟨128, 128⟩, ⟨0, 0⟩, ⟨512, 512⟩, ⟨1280, 1280⟩, ⟨2113, 2113⟩] .nil .nil))
theorem rw26 : RowAt Tryz.prog 26 rt26 := qZn Tryz.func26 (by kernel_rfl)
def rt27 : BT (List Row) := (.node 2 [⟨0, 0⟩, ⟨0, 0⟩, ⟨0, 0⟩, ⟨1, 1⟩, ⟨8, 8⟩, ⟨23, 18⟩, ⟨39, 36⟩] .nil .nil)
theorem rw27 : RowAt Tryz.prog 27 rt27 := qZn Tryz.func27 (by kernel_rfl)
def rt30 : BT (List Row) := (.node 0 [⟨0, 0⟩, ⟨0, 0⟩, ⟨2, 2⟩, ⟨4, 4⟩, ⟨8, 8⟩, ⟨16, 16⟩, ⟨0, 0⟩, ⟨64, 64⟩, ⟨128, 128⟩, ⟨256, 256⟩, ⟨512, 512⟩, ⟨0, 0⟩, ⟨0, 0⟩, ⟨7168, 7168⟩, ⟨8192, 8192⟩, ⟨16416, 16416⟩, ⟨65535, 1⟩, ⟨131071, 65536⟩, ⟨196607, 131072⟩, ⟨327679, 294912⟩] .nil .nil)
theorem rw30 : RowAt Tryz.prog 30 rt30 := qZn Tryz.func30 (by kernel_rfl)
def rt32 : BT (List Row) := (.node 8 [⟨0, 0⟩, ⟨1, 1⟩, ⟨2, 2⟩, ⟨4, 4⟩, ⟨0, 0⟩, ⟨0, 0⟩, ⟨0, 0⟩, ⟨64, 64⟩, ⟨32, 32⟩, ⟨256, 256⟩, ⟨640, 640⟩, ⟨1024, 1024⟩, ⟨4095, 24⟩, ⟨8191, 6144⟩] (.node 1 [⟨0, 0⟩, ⟨0, 0⟩, ⟨2, 2⟩, ⟨1, 1⟩, ⟨8, 8⟩, ⟨20, 20⟩, ⟨32, 32⟩, ⟨64, 64⟩, ⟨0, 0⟩, ⟨256, 256⟩, ⟨512, 512⟩, ⟨1152, 1152⟩, ⟨2048, 2048⟩, ⟨8191, 4096⟩] .nil .nil) (.node 9 [⟨0, 0⟩, ⟨0, 0⟩, ⟨2, 2⟩, ⟨0, 0⟩, ⟨8, 8⟩, ⟨16, 16⟩, ⟨32, 32⟩, ⟨0, 0⟩, ⟨192, 192⟩, ⟨256, 256⟩, ⟨517, 517⟩] .nil .nil))
theorem rw32 : RowAt Tryz.prog 32 rt32 := qZn Tryz.func32 (by kernel_rfl)
def rt33 : BT (List Row) := (.node 13 [⟨0, 0⟩, ⟨0, 0⟩, ⟨2, 2⟩, ⟨0, 0⟩, ⟨8, 8⟩, ⟨16, 16⟩, ⟨37, 37⟩] (.node 10 [⟨0, 0⟩, ⟨0, 0⟩, ⟨2, 2⟩, ⟨0, 0⟩, ⟨8, 8⟩, ⟨16, 16⟩, ⟨32, 32⟩, ⟨64, 64⟩, ⟨128, 128⟩, ⟨256, 256⟩, ⟨512, 512⟩, ⟨1029, 1029⟩] (.node 1 [⟨0, 0⟩, ⟨0, 0⟩, ⟨2, 2⟩, ⟨1, 1⟩, ⟨8, 8⟩, ⟨20, 20⟩, ⟨32, 32⟩, ⟨64, 64⟩, ⟨0, 0⟩, ⟨0, 0⟩, ⟨512, 512⟩, ⟨256, 256⟩, ⟨2048, 2048⟩, ⟨5120, 5120⟩, ⟨8192, 8192⟩, ⟨16384, 16384⟩, ⟨255, 128⟩, ⟨131071, 32768⟩] .nil .nil) (.node 11 [⟨0, 0⟩, ⟨0, 0⟩, ⟨2, 2⟩, ⟨0, 0⟩, ⟨8, 8⟩, ⟨16, 16⟩, ⟨37, 37⟩] .nil .nil)) (.node 19 [⟨0, 0⟩, ⟨0, 0⟩, ⟨2, 2⟩, ⟨4, 4⟩, ⟨8, 8⟩, ⟨16, 16⟩, ⟨0, 0⟩, ⟨64, 64⟩, ⟨128, 128⟩, ⟨289, 289⟩] (.node 17 [⟨0, 0⟩, ⟨0, 0⟩, ⟨2, 2⟩, ⟨4, 4⟩, ⟨8, 8⟩, ⟨16, 16⟩, ⟨32, 32⟩, ⟨0, 0⟩, ⟨128, 128⟩, ⟨256, 256⟩, ⟨577, 577⟩] .nil .nil) .nil))
theorem rw33 : RowAt Tryz.prog 33 rt33 := qZn Tryz.func33 (by kernel_rfl)
def rt44 : BT (List Row) := (.node 8 [⟨0, 0⟩, ⟨0, 0⟩, ⟨2, 2⟩, ⟨4, 4⟩, ⟨8, 8⟩, ⟨16, 16⟩, ⟨32, 32⟩, ⟨0, 0⟩, ⟨128, 128⟩, ⟨256, 256⟩, ⟨512, 512⟩, ⟨1088, 1088⟩, ⟨0, 0⟩, ⟨4096, 4096⟩, ⟨10240, 10240⟩, ⟨16385, 16385⟩, ⟨65535, 32769⟩] .nil .nil)
theorem rw44 : RowAt Tryz.prog 44 rt44 := qZn Tryz.func44 (by kernel_rfl)
def rtB : RowT := (.node 16 rt16 (.node 11 rt11 (.node 8 rt8 (.node 7 rt7 (.node 5 rt5 .nil .nil) .nil) (.node 10 rt10 .nil .nil)) (.node 13 rt13 (.node 12 rt12 .nil .nil) (.node 14 rt14 .nil .nil))) (.node 30 rt30 (.node 26 rt26 (.node 21 rt21 .nil .nil) (.node 27 rt27 .nil .nil)) (.node 33 rt33 (.node 32 rt32 .nil .nil) (.node 44 rt44 .nil .nil))))
theorem rtB_ok : RtsOk Tryz.prog (rtsB rtB) := rtsB_ok ⟨rw16, ⟨rw11, ⟨rw8, ⟨rw7, ⟨rw5, trivial, trivial⟩, trivial⟩, ⟨rw10, trivial, trivial⟩⟩, ⟨rw13, ⟨rw12, trivial, trivial⟩, ⟨rw14, trivial, trivial⟩⟩⟩, ⟨rw30, ⟨rw26, ⟨rw21, trivial, trivial⟩, ⟨rw27, trivial, trivial⟩⟩, ⟨rw33, ⟨rw32, trivial, trivial⟩, ⟨rw44, trivial, trivial⟩⟩⟩⟩

theorem own : ownKnob Tryz.prog.godebug = none := by kernel_rfl
theorem laidOut : laidOutB Tryz.prog = true := by kernel_rfl
theorem nogo : (Tryz.prog.funcs.all fun fn => fn.name != "runtime.NumGoroutine") = true := by kernel_rfl
theorem mixedOk : Tryz.prog.follows .mixedOrders = true := by kernel_rfl
/-- the types whose values are compared with no panic -/
noncomputable def seqB (t : TypeId) : Bool := !Tryz.prog.eqGuardType Tryz.prog.depth t && !Tryz.prog.stoodInHeld t
/-- the tables that the row lays, as rows that come in -/
def tabsL : List InD := [⟨[.int .i64], qQv [.c 1, .c 1, .c 1, .c 1, .c 1, .c 1, .c 1, .c 1, .c 1, .c 1, .c 1, .c 1, .c 1, .c 1, .c 1, .c 1, .c 1, .c 3, .c 3, .c 3, .c 3, .c 2, .c 2, .c 1, .c 1, .c 1, .c 1, .c 1, .c 1, .c 1, .c 1, .c 1, .c 1, .c 2, .c 2, .c 1, .c 1, .c 1, .c 3, .c 3, .c 3, .c 1, .c 1], .c 43, .c 43, some 1⟩, ⟨[.int .u8], qQv [.c 0, .c 0, .c 0, .c 0, .c 0, .c 0, .c 0, .c 0, .c 0, .c 1, .c 1, .c 1, .c 1, .c 1, .c 0, .c 0, .c 0, .c 0, .c 0, .c 0, .c 0, .c 0, .c 0, .c 0, .c 0, .c 0, .c 0, .c 0, .c 0, .c 0, .c 0, .c 0, .c 1, .c 0, .c 0, .c 0, .c 0, .c 0, .c 0, .c 0, .c 0, .c 0, .c 0, .c 0, .c 0, .c 0, .c 0, .c 0, .c 0, .c 0, .c 0, .c 0, .c 0, .c 0, .c 0, .c 0, .c 0, .c 0, .c 0, .c 0, .c 0, .c 0, .c 0, .c 0, .c 0, .c 0, .c 0, .c 0, .c 0, .c 0, .c 0, .c 0, .c 0, .c 0, .c 0, .c 0, .c 0, .c 0, .c 0, .c 0, .c 0, .c 0, .c 0, .c 0, .c 0, .c 0, .c 0, .c 0, .c 0, .c 0, .c 0, .c 0, .c 0, .c 0, .c 0, .c 0, .c 0, .c 0, .c 0, .c 0, .c 0, .c 0, .c 0, .c 0, .c 0, .c 0, .c 0, .c 0, .c 0, .c 0, .c 0, .c 0, .c 0, .c 0, .c 0, .c 0, .c 0, .c 0, .c 0, .c 0, .c 0, .c 0, .c 0, .c 0, .c 0, .c 0, .c 0, .c 0, .c 0, .c 0, .c 0, .c 0, .c 0, .c 0, .c 0, .c 0, .c 0, .c 0, .c 0, .c 0, .c 0, .c 0, .c 0, .c 0, .c 0, .c 0, .c 0, .c 0, .c 0, .c 0, .c 0, .c 0, .c 0, .c 0, .c 0, .c 0, .c 0, .c 0, .c 0, .c 0, .c 0, .c 0, .c 0, .c 0, .c 0, .c 0, .c 0, .c 0, .c 0, .c 0, .c 0, .c 0, .c 0, .c 0, .c 0, .c 0, .c 0, .c 0, .c 0, .c 0, .c 0, .c 0, .c 0, .c 0, .c 0, .c 0, .c 0, .c 0, .c 0, .c 0, .c 0, .c 0, .c 0, .c 0, .c 0, .c 0, .c 0, .c 0, .c 0, .c 0, .c 0, .c 0, .c 0, .c 0, .c 0, .c 0, .c 0, .c 0, .c 0, .c 0, .c 0, .c 0, .c 0, .c 0, .c 0, .c 0, .c 0, .c 0, .c 0, .c 0, .c 0, .c 0, .c 0, .c 0, .c 0, .c 0, .c 0, .c 0, .c 0, .c 0, .c 0, .c 0, .c 0, .c 0, .c 0, .c 0, .c 0, .c 0, .c 0, .c 0, .c 0, .c 0, .c 0, .c 0, .c 0, .c 0, .c 0, .c 0, .c 0, .c 0, .c 0, .c 0, .c 0, .c 0, .c 0, .c 0], .c 256, .c 256, some 0⟩]
/-- n: how deep a number may be without a name (0: none is named) -/
noncomputable def cxOf (n : Nat) : Cx :=
  { P := Tryz.prog, Γ := [], Φ := phiN, F := fN, lf := lfN, ins := [], tabs := tabsL, sh := n, und := undB tyB, inf := infB tyB, fn := fnB fuB, seq := seqB,
    undOk := undB_ok tyB_ok, infOk := fun _ _ h => BT.find_all tyB_ok h, fnOk := fun _ _ h => BT.find_all fuB_ok h,
    seqOk := fun t h => by unfold seqB at h; simpa using h }
theorem cxOf_ok (n : Nat) (m : Rc) : CxOk (m.cx (cxOf n)) :=
  ⟨mixedOk, fun f fn h => by
    have h1 := Array.all_eq_true.1 nogo
    obtain ⟨h2, h3⟩ := Array.getElem?_eq_some_iff.1 h
    have := h1 f h2
    have h4 : (Tryz.prog.funcs[f]'h2) = fn := h3
    rw [h4] at this
    simpa using this⟩
/-- the same, with what comes in -/
noncomputable def cxG (n : Nat) (Γ : List (Int × Int)) (ins : List InD) : Cx := { cxOf n with Γ := Γ, ins := ins ++ tabsL }
theorem tabsAll : (tabsL.all fun d => d.c.vb 0 && (d.n.vb 0 && d.cap.vb 0)) = true := by kernel_rfl
theorem tabsG (n : Nat) (Γ : List (Int × Int)) (ins : List InD) : TabsOk (cxG n Γ ins) := ⟨⟨ins, rfl⟩, fun d hd => by have := List.all_eq_true.1 tabsAll d hd; simp only [Bool.and_eq_true] at this; exact this⟩
theorem cxG_ok (n : Nat) (Γ : List (Int × Int)) (ins : List InD) : CxOk (cxG n Γ ins) :=
  ⟨mixedOk, fun f fn h => by
    have h1 := Array.all_eq_true.1 nogo
    obtain ⟨h2, h3⟩ := Array.getElem?_eq_some_iff.1 h
    have := h1 f h2
    have h4 : (Tryz.prog.funcs[f]'h2) = fn := h3
    rw [h4] at this
    simpa using this⟩
/-- a contract holds however much is named, and whatever else comes in -/
theorem rc_n {n k : Nat} {Γ : List (Int × Int)} {ins : List InD} {m : Rc} (h : RcOk (cxOf n) m) : RcOk (cxG k Γ ins) m :=
  fun ρ w hρ hc hp hr => h ρ w ⟨hρ.hi, hρ.hf, hρ.hv, hρ.hF, hρ.hP, hρ.hro⟩ hc hp hr
theorem rh_n {n k : Nat} {Γ : List (Int × Int)} {ins : List InD} {m : Rh} (h : RhOk (cxOf n) m) : RhOk (cxG k Γ ins) m :=
  fun ρ β w hρ hp hs => h ρ β w ⟨hρ.hi, hρ.hf, hρ.hv, hρ.hF, hρ.hP, hρ.hro⟩ hp hs
theorem mg {α : Type} {l : List α} {a : α} (i : Nat) (h : l[i]? = some a) : a ∈ l := List.mem_of_getElem? h
/-- the engine's runs -/
abbrev SMs := List (Int × Int) → List InD → Nat → SM
def SMsOk (sm : SMs) : Prop := ∀ Γ ins n, SmOk (cxG n Γ ins) (sm Γ ins n)
noncomputable def runC (sm : SMs) (Γ : List (Int × Int)) (ins : List InD) (n : Nat) : CF := execFn (cxG n Γ ins) (rtsB rtB) (sm Γ ins n) (fun _ _ => none) 40 30
theorem xok0 (cx : Cx) : XOk cx (fun _ _ => none) := fun _ _ _ _ _ _ _ h => by cases h
theorem runC_ok {sm : SMs} (h : SMsOk sm) (Γ : List (Int × Int)) (ins : List InD) (n : Nat) : qKs (cxG n Γ ins) (runC sm Γ ins n) := execFn_ok (cxG_ok n Γ ins) rtB_ok (h Γ ins n) (xok0 _) _
noncomputable def runG (sm : SMs) (lhs : LHS) (Γ : List (Int × Int)) (ins : List InD) (n : Nat) : CFT := execFnT (cxG n Γ ins) (rtsB rtB) (sm Γ ins n) (fun _ _ => none) lhs (runC sm Γ ins n) 40 30
theorem runG_ok {sm : SMs} (h : SMsOk sm) (lhs : LHS) (Γ : List (Int × Int)) (ins : List InD) (n : Nat) : qJb (cxG n Γ ins) (runG sm lhs Γ ins n) :=
  execFnT_ok (cxG_ok n Γ ins) rtB_ok (h Γ ins n) (xok0 _) (runC_ok h Γ ins n) _
noncomputable def runT (sm : SMs) (lhs : LHS) (m : Rc) (n : Nat) : CFT := runG sm lhs (bdsF m.ls) (qXp m.b m.c m.ls 0 0 0) n
theorem runT_ok {sm : SMs} (h : SMsOk sm) (lhs : LHS) (m : Rc) (n : Nat) : qJb (m.cx (cxOf n)) (runT sm lhs m n) := runG_ok h lhs _ _ n
noncomputable def runH (sm : SMs) (lhs : LHS) (m : Rk) (n : Nat) : CFT := runG sm lhs m.Γ m.ins n
theorem runH_ok {sm : SMs} (h : SMsOk sm) (lhs : LHS) (m : Rk) (n : Nat) : qJb (m.rh.cx (cxOf n)) (runH sm lhs m n) := runG_ok h lhs m.Γ m.ins n
/-! the parts of a contract's proof -/
noncomputable def fineR (n : Nat) (m : Rc) (t : TT (List E)) : Bool := TT.fine (m.cx (cxOf n)) 1000 [] t && (m.cx (cxOf n)).okB 1000 && SV.vbL 1000 m.args && TT.tidy (m.cx (cxOf n)) [] t
noncomputable def ranR (us : SMs) (lhs : LHS) (m : Rc) (n : Nat) (t : TT (List E)) : Bool := TT.beq (projL (m.pj (cxOf n)) (runT us lhs m n m.f m.args ⟨[], []⟩)) t
def statR (n : Nat) (m : Rc) (t : TT (List E)) (ρ : Env) : Prop := TT.hdP (m.cx (cxOf n)) (rlF ρ m.res) t ρ
theorem okR {us : SMs} {lhs : LHS} {m : Rc} {n : Nat} {t : TT (List E)} (hu : SMsOk us) (h1 : ranR us lhs m n t = true) (h2 : fineR n m t = true) (h3 : m.ok = true)
    (h : ∀ i v ro p, EnvOk (m.cx (cxOf n)) ⟨i, fN, v, ro, p⟩ → (∀ d ∈ qXp m.b m.c m.ls 0 0 0, d.n.ev ⟨i, fN, v, ro, p⟩ ≤ d.cap.ev ⟨i, fN, v, ro, p⟩) → (∀ e ∈ m.pre, e.evP ⟨i, fN, v, ro, p⟩ ≠ 0) → statR n m t ⟨i, fN, v, ro, p⟩) : RcOk (cxOf n) m :=
  rc_run (runT_ok hu lhs m n) h1 h2 h3 fun ρ hρ hcap hpre => by
    obtain ⟨i, f, v, ro, p⟩ := ρ
    have hf : f = fN := hρ.hF
    subst hf
    exact h i v ro p hρ hcap hpre
noncomputable def fineH (n : Nat) (m : Rk) (t : TT (List E)) : Bool := TT.fine (m.rh.cx (cxOf n)) 1000 [] t && (m.rh.cx (cxOf n)).okB 1000 && SV.vbL 1000 m.args && TT.tidy (m.rh.cx (cxOf n)) [] t
noncomputable def ranH (us : SMs) (lhs : LHS) (m : Rk) (n : Nat) (t : TT (List E)) : Bool := TT.beq (projL (m.pj (cxOf n)) (runH us lhs m n m.f m.args ⟨m.inb, m.kn0⟩)) t
def statH (n : Nat) (m : Rk) (t : TT (List E)) (ρ : Env) : Prop := TT.hdP (m.rh.cx (cxOf n)) (rsF ρ m.rs) t ρ
theorem okH {us : SMs} {lhs : LHS} {m : Rk} {n : Nat} {t : TT (List E)} (hu : SMsOk us) (h1 : ranH us lhs m n t = true) (h2 : fineH n m t = true) (h4 : blVb 1000 m.inb = true) (h3 : m.ok = true)
    (h : ∀ i v ro p, EnvOk (m.rh.cx (cxOf n)) ⟨i, fN, v, ro, p⟩ → (∀ e ∈ m.pre, e.evP ⟨i, fN, v, ro, p⟩ ≠ 0) → statH n m t ⟨i, fN, v, ro, p⟩) : RhOk (cxOf n) m.rh :=
  rk_run (runH_ok hu lhs m n) h1 h2 h4 h3 fun ρ hρ hpre => by
    obtain ⟨i, f, v, ro, p⟩ := ρ
    have hf : f = fN := hρ.hF
    subst hf
    exact h i v ro p hρ hpre
theorem den_row (ρ : Env) (β : Bt) (k z i j : Nat) : (SV.sl (.inp k) z (.c 0) (.v i) (some (.v j))).den ρ β = .slice (ρ.ro k).a (ρ.i i).toNat (ρ.i j).toNat := by
  simp only [SV.den, E.ev, map_addr_zero]
end Go.Proofs.YteimodjkllldlaaGreatDoor
