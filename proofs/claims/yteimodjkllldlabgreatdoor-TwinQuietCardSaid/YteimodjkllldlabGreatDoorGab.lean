/-
  The program's tables of types, of functions and of all regions that draw their order, as trees; the engine at this program. Printed by program.
-/
import Derived.Test.YteimodjkllldlabGreatDoorGu5
import Derived.Test.YteimodjkllldlabGreatDoorRows
import Derived.WalkKit
import Derived.ProofKit
set_option linter.unusedVariables false
set_option linter.unusedSimpArgs false
namespace Go.Proofs.YteimodjkllldlabGreatDoor
open Go Go.Eng Go.RowKit
set_option maxRecDepth 100000
noncomputable def tyB : BT TypeInfo := (.node 59 Tryz.t59 (.node 32 Tryz.t32 (.node 22 Tryz.t22 (.node 5 Tryz.t5 (.node 3 Tryz.t3 (.node 2 Tryz.t2 .nil .nil) (.node 4 Tryz.t4 .nil .nil)) (.node 21 Tryz.t21 (.node 9 Tryz.t9 .nil .nil) .nil)) (.node 26 Tryz.t26 (.node 24 Tryz.t24 (.node 23 Tryz.t23 .nil .nil) (.node 25 Tryz.t25 .nil .nil)) (.node 29 Tryz.t29 (.node 27 Tryz.t27 .nil .nil) .nil))) (.node 48 Tryz.t48 (.node 43 Tryz.t43 (.node 37 Tryz.t37 (.node 33 Tryz.t33 .nil .nil) (.node 38 Tryz.t38 .nil .nil)) (.node 47 Tryz.t47 (.node 46 Tryz.t46 .nil .nil) .nil)) (.node 54 Tryz.t54 (.node 53 Tryz.t53 (.node 51 Tryz.t51 .nil .nil) .nil) (.node 58 Tryz.t58 (.node 57 Tryz.t57 .nil .nil) .nil)))) (.node 104 Tryz.t104 (.node 90 Tryz.t90 (.node 85 Tryz.t85 (.node 77 Tryz.t77 (.node 68 Tryz.t68 .nil .nil) (.node 78 Tryz.t78 .nil .nil)) (.node 89 Tryz.t89 (.node 88 Tryz.t88 .nil .nil) .nil)) (.node 93 Tryz.t93 (.node 92 Tryz.t92 (.node 91 Tryz.t91 .nil .nil) .nil) (.node 103 Tryz.t103 (.node 101 Tryz.t101 .nil .nil) .nil))) (.node 151 Tryz.t151 (.node 109 Tryz.t109 (.node 107 Tryz.t107 (.node 105 Tryz.t105 .nil .nil) (.node 108 Tryz.t108 .nil .nil)) (.node 130 Tryz.t130 (.node 110 Tryz.t110 .nil .nil) .nil)) (.node 160 Tryz.t160 (.node 159 Tryz.t159 (.node 158 Tryz.t158 .nil .nil) .nil) (.node 162 Tryz.t162 (.node 161 Tryz.t161 .nil .nil) .nil)))))
theorem tyB_ok : tyB.All fun i v => Tryz.prog.info? i = some v := ⟨Tryz.type59, ⟨Tryz.type32, ⟨Tryz.type22, ⟨Tryz.type5, ⟨Tryz.type3, ⟨Tryz.type2, trivial, trivial⟩, ⟨Tryz.type4, trivial, trivial⟩⟩, ⟨Tryz.type21, ⟨Tryz.type9, trivial, trivial⟩, trivial⟩⟩, ⟨Tryz.type26, ⟨Tryz.type24, ⟨Tryz.type23, trivial, trivial⟩, ⟨Tryz.type25, trivial, trivial⟩⟩, ⟨Tryz.type29, ⟨Tryz.type27, trivial, trivial⟩, trivial⟩⟩⟩, ⟨Tryz.type48, ⟨Tryz.type43, ⟨Tryz.type37, ⟨Tryz.type33, trivial, trivial⟩, ⟨Tryz.type38, trivial, trivial⟩⟩, ⟨Tryz.type47, ⟨Tryz.type46, trivial, trivial⟩, trivial⟩⟩, ⟨Tryz.type54, ⟨Tryz.type53, ⟨Tryz.type51, trivial, trivial⟩, trivial⟩, ⟨Tryz.type58, ⟨Tryz.type57, trivial, trivial⟩, trivial⟩⟩⟩⟩, ⟨Tryz.type104, ⟨Tryz.type90, ⟨Tryz.type85, ⟨Tryz.type77, ⟨Tryz.type68, trivial, trivial⟩, ⟨Tryz.type78, trivial, trivial⟩⟩, ⟨Tryz.type89, ⟨Tryz.type88, trivial, trivial⟩, trivial⟩⟩, ⟨Tryz.type93, ⟨Tryz.type92, ⟨Tryz.type91, trivial, trivial⟩, trivial⟩, ⟨Tryz.type103, ⟨Tryz.type101, trivial, trivial⟩, trivial⟩⟩⟩, ⟨Tryz.type151, ⟨Tryz.type109, ⟨Tryz.type107, ⟨Tryz.type105, trivial, trivial⟩, ⟨Tryz.type108, trivial, trivial⟩⟩, ⟨Tryz.type130, ⟨Tryz.type110, trivial, trivial⟩, trivial⟩⟩, ⟨Tryz.type160, ⟨Tryz.type159, ⟨Tryz.type158, trivial, trivial⟩, trivial⟩, ⟨Tryz.type162, ⟨Tryz.type161, trivial, trivial⟩, trivial⟩⟩⟩⟩⟩
noncomputable def fuB : BT Func := (.node 75 Tryz.f75 (.node 33 Tryz.f33 (.node 18 Tryz.f18 (.node 10 Tryz.f10 (.node 6 Tryz.f6 (.node 4 Tryz.f4 (.node 3 Tryz.f3 .nil .nil) (.node 5 Tryz.f5 .nil .nil)) (.node 8 Tryz.f8 (.node 7 Tryz.f7 .nil .nil) (.node 9 Tryz.f9 .nil .nil))) (.node 14 Tryz.f14 (.node 12 Tryz.f12 (.node 11 Tryz.f11 .nil .nil) (.node 13 Tryz.f13 .nil .nil)) (.node 16 Tryz.f16 (.node 15 Tryz.f15 .nil .nil) (.node 17 Tryz.f17 .nil .nil)))) (.node 26 Tryz.f26 (.node 22 Tryz.f22 (.node 20 Tryz.f20 (.node 19 Tryz.f19 .nil .nil) (.node 21 Tryz.f21 .nil .nil)) (.node 24 Tryz.f24 (.node 23 Tryz.f23 .nil .nil) (.node 25 Tryz.f25 .nil .nil))) (.node 30 Tryz.f30 (.node 28 Tryz.f28 (.node 27 Tryz.f27 .nil .nil) (.node 29 Tryz.f29 .nil .nil)) (.node 32 Tryz.f32 (.node 31 Tryz.f31 .nil .nil) .nil)))) (.node 49 Tryz.f49 (.node 41 Tryz.f41 (.node 37 Tryz.f37 (.node 35 Tryz.f35 (.node 34 Tryz.f34 .nil .nil) (.node 36 Tryz.f36 .nil .nil)) (.node 39 Tryz.f39 (.node 38 Tryz.f38 .nil .nil) (.node 40 Tryz.f40 .nil .nil))) (.node 45 Tryz.f45 (.node 43 Tryz.f43 (.node 42 Tryz.f42 .nil .nil) (.node 44 Tryz.f44 .nil .nil)) (.node 47 Tryz.f47 (.node 46 Tryz.f46 .nil .nil) (.node 48 Tryz.f48 .nil .nil)))) (.node 59 Tryz.f59 (.node 55 Tryz.f55 (.node 53 Tryz.f53 (.node 52 Tryz.f52 .nil .nil) (.node 54 Tryz.f54 .nil .nil)) (.node 57 Tryz.f57 (.node 56 Tryz.f56 .nil .nil) (.node 58 Tryz.f58 .nil .nil))) (.node 72 Tryz.f72 (.node 70 Tryz.f70 (.node 69 Tryz.f69 .nil .nil) (.node 71 Tryz.f71 .nil .nil)) (.node 74 Tryz.f74 (.node 73 Tryz.f73 .nil .nil) .nil))))) (.node 113 Tryz.f113 (.node 97 Tryz.f97 (.node 83 Tryz.f83 (.node 79 Tryz.f79 (.node 77 Tryz.f77 (.node 76 Tryz.f76 .nil .nil) (.node 78 Tryz.f78 .nil .nil)) (.node 81 Tryz.f81 (.node 80 Tryz.f80 .nil .nil) (.node 82 Tryz.f82 .nil .nil))) (.node 93 Tryz.f93 (.node 91 Tryz.f91 (.node 90 Tryz.f90 .nil .nil) (.node 92 Tryz.f92 .nil .nil)) (.node 95 Tryz.f95 (.node 94 Tryz.f94 .nil .nil) (.node 96 Tryz.f96 .nil .nil)))) (.node 106 Tryz.f106 (.node 101 Tryz.f101 (.node 99 Tryz.f99 (.node 98 Tryz.f98 .nil .nil) (.node 100 Tryz.f100 .nil .nil)) (.node 103 Tryz.f103 (.node 102 Tryz.f102 .nil .nil) (.node 105 Tryz.f105 .nil .nil))) (.node 110 Tryz.f110 (.node 108 Tryz.f108 (.node 107 Tryz.f107 .nil .nil) (.node 109 Tryz.f109 .nil .nil)) (.node 112 Tryz.f112 (.node 111 Tryz.f111 .nil .nil) .nil)))) (.node 129 Tryz.f129 (.node 121 Tryz.f121 (.node 117 Tryz.f117 (.node 115 Tryz.f115 (.node 114 Tryz.f114 .nil .nil) (.node 116 Tryz.f116 .nil .nil)) (.node 119 Tryz.f119 (.node 118 Tryz.f118 .nil .nil) (.node 120 Tryz.f120 .nil .nil))) (.node 125 Tryz.f125 (.node 123 Tryz.f123 (.node 122 Tryz.f122 .nil .nil) (.node 124 Tryz.f124 .nil .nil)) (.node 127 Tryz.f127 (.node 126 Tryz.f126 .nil .nil) (.node 128 Tryz.f128 .nil .nil)))) (.node 137 Tryz.f137 (.node 133 Tryz.f133 (.node 131 Tryz.f131 (.node 130 Tryz.f130 .nil .nil) (.node 132 Tryz.f132 .nil .nil)) (.node 135 Tryz.f135 (.node 134 Tryz.f134 .nil .nil) (.node 136 Tryz.f136 .nil .nil))) (.node 141 Tryz.f141 (.node 139 Tryz.f139 (.node 138 Tryz.f138 .nil .nil) (.node 140 Tryz.f140 .nil .nil)) (.node 143 Tryz.f143 (.node 142 Tryz.f142 .nil .nil) .nil))))))
theorem fuB_ok : fuB.All fun i v => Tryz.prog.funcs[i]? = some v := ⟨Tryz.func75, ⟨Tryz.func33, ⟨Tryz.func18, ⟨Tryz.func10, ⟨Tryz.func6, ⟨Tryz.func4, ⟨Tryz.func3, trivial, trivial⟩, ⟨Tryz.func5, trivial, trivial⟩⟩, ⟨Tryz.func8, ⟨Tryz.func7, trivial, trivial⟩, ⟨Tryz.func9, trivial, trivial⟩⟩⟩, ⟨Tryz.func14, ⟨Tryz.func12, ⟨Tryz.func11, trivial, trivial⟩, ⟨Tryz.func13, trivial, trivial⟩⟩, ⟨Tryz.func16, ⟨Tryz.func15, trivial, trivial⟩, ⟨Tryz.func17, trivial, trivial⟩⟩⟩⟩, ⟨Tryz.func26, ⟨Tryz.func22, ⟨Tryz.func20, ⟨Tryz.func19, trivial, trivial⟩, ⟨Tryz.func21, trivial, trivial⟩⟩, ⟨Tryz.func24, ⟨Tryz.func23, trivial, trivial⟩, ⟨Tryz.func25, trivial, trivial⟩⟩⟩, ⟨Tryz.func30, ⟨Tryz.func28, ⟨Tryz.func27, trivial, trivial⟩, ⟨Tryz.func29, trivial, trivial⟩⟩, ⟨Tryz.func32, ⟨Tryz.func31, trivial, trivial⟩, trivial⟩⟩⟩⟩, ⟨Tryz.func49, ⟨Tryz.func41, ⟨Tryz.func37, ⟨Tryz.func35, ⟨Tryz.func34, trivial, trivial⟩, ⟨Tryz.func36, trivial, trivial⟩⟩, ⟨Tryz.func39, ⟨Tryz.func38, trivial, trivial⟩, ⟨Tryz.func40, trivial, trivial⟩⟩⟩, ⟨Tryz.func45, ⟨Tryz.func43, ⟨Tryz.func42, trivial, trivial⟩, ⟨Tryz.func44, trivial, trivial⟩⟩, ⟨Tryz.func47, ⟨Tryz.func46, trivial, trivial⟩, ⟨Tryz.func48, trivial, trivial⟩⟩⟩⟩, ⟨Tryz.func59, ⟨Tryz.func55, ⟨Tryz.func53, ⟨Tryz.func52, trivial, trivial⟩, ⟨Tryz.func54, trivial, trivial⟩⟩, ⟨Tryz.func57, ⟨Tryz.func56, trivial, trivial⟩, ⟨Tryz.func58, trivial, trivial⟩⟩⟩, ⟨Tryz.func72, ⟨Tryz.func70, ⟨Tryz.func69, trivial, trivial⟩, ⟨Tryz.func71, trivial, trivial⟩⟩, ⟨Tryz.func74, ⟨Tryz.func73, trivial, trivial⟩, trivial⟩⟩⟩⟩⟩, ⟨Tryz.func113, ⟨Tryz.func97, ⟨Tryz.func83, ⟨Tryz.func79, ⟨Tryz.func77, ⟨Tryz.func76, trivial, trivial⟩, ⟨Tryz.func78, trivial, trivial⟩⟩, ⟨Tryz.func81, ⟨Tryz.func80, trivial, trivial⟩, ⟨Tryz.func82, trivial, trivial⟩⟩⟩, ⟨Tryz.func93, ⟨Tryz.func91, ⟨Tryz.func90, trivial, trivial⟩, ⟨Tryz.func92, trivial, trivial⟩⟩, ⟨Tryz.func95, ⟨Tryz.func94, trivial, trivial⟩, ⟨Tryz.func96, trivial, trivial⟩⟩⟩⟩, ⟨Tryz.func106, ⟨Tryz.func101, ⟨Tryz.func99, ⟨Tryz.func98, trivial, trivial⟩, ⟨Tryz.func100, trivial, trivial⟩⟩, ⟨Tryz.func103, ⟨Tryz.func102, trivial, trivial⟩, ⟨Tryz.func105, trivial, trivial⟩⟩⟩, ⟨Tryz.func110, ⟨Tryz.func108, ⟨Tryz.func107, trivial, trivial⟩, ⟨Tryz.func109, trivial, trivial⟩⟩, ⟨Tryz.func112, ⟨Tryz.func111, trivial, trivial⟩, trivial⟩⟩⟩⟩, ⟨Tryz.func129, ⟨Tryz.func121, ⟨Tryz.func117, ⟨Tryz.func115, ⟨Tryz.func114, trivial, trivial⟩, ⟨Tryz.func116, trivial, trivial⟩⟩, ⟨Tryz.func119, ⟨Tryz.func118, trivial, trivial⟩, ⟨Tryz.func120, trivial, trivial⟩⟩⟩, ⟨Tryz.func125, ⟨Tryz.func123, ⟨Tryz.func122, trivial, trivial⟩, ⟨Tryz.func124, trivial, trivial⟩⟩, ⟨Tryz.func127, ⟨Tryz.func126, trivial, trivial⟩, ⟨Tryz.func128, trivial, trivial⟩⟩⟩⟩, ⟨Tryz.func137, ⟨Tryz.func133, ⟨Tryz.func131, ⟨Tryz.func130, trivial, trivial⟩, ⟨Tryz.func132, trivial, trivial⟩⟩, ⟨Tryz.func135, ⟨Tryz.func134, trivial, trivial⟩, ⟨Tryz.func136, trivial, trivial⟩⟩⟩, ⟨Tryz.func141, ⟨Tryz.func139, ⟨Tryz.func138, trivial, trivial⟩, ⟨Tryz.func140, trivial, trivial⟩⟩, ⟨Tryz.func143, ⟨Tryz.func142, trivial, trivial⟩, trivial⟩⟩⟩⟩⟩⟩
def rt5 : BT (List Row) := (.node 11 [⟨0, 0⟩, ⟨1, 1⟩, ⟨0, 0⟩, ⟨6, 6⟩, ⟨8, 8⟩, ⟨0, 0⟩, ⟨32, 32⟩, ⟨0, 0⟩, ⟨192, 192⟩, ⟨256, 256⟩, ⟨528, 528⟩] .nil .nil)
theorem rw5 : RowAt Tryz.prog 5 rt5 := qZi Tryz.func5 (by kernel_rfl)
def rt7 : BT (List Row) := (.node 9 [⟨0, 0⟩, ⟨1, 1⟩, ⟨2, 2⟩, ⟨4, 4⟩, ⟨12, 12⟩, ⟨4, 4⟩, ⟨36, 36⟩, ⟨84, 84⟩, ⟨132, 132⟩, ⟨0, 0⟩, ⟨0, 0⟩, ⟨1024, 1024⟩, ⟨0, 0⟩, ⟨4096, 4096⟩, ⟨0, 0⟩, ⟨16384, 16384⟩, ⟨32772, 32768⟩, ⟨0, 0⟩, ⟨131072, 131072⟩, ⟨327680, 262144⟩, ⟨0, 0⟩, ⟨1048576, 1048576⟩, ⟨0, 0⟩, ⟨4194304, 4194304⟩, ⟨0, 0⟩, ⟨16777216, 16777216⟩, ⟨33554432, 33554432⟩, ⟨0, 0⟩, ⟨134217728, 134217728⟩, ⟨268435456, 268435456⟩, ⟨615066368, 615066368⟩, ⟨2147483647, 1073741824⟩, ⟨4294967295, 0⟩] .nil .nil)
theorem rw7 : RowAt Tryz.prog 7 rt7 := qZi Tryz.func7 (by kernel_rfl)
def rt8 : BT (List Row) := (.node 6 [⟨0, 0⟩, ⟨0, 0⟩, ⟨3, 3⟩, ⟨4, 4⟩, ⟨0, 0⟩, ⟨0, 0⟩, ⟨48, 48⟩, ⟨64, 64⟩, ⟨136, 136⟩] .nil .nil)
theorem rw8 : RowAt Tryz.prog 8 rt8 := qZi Tryz.func8 (by kernel_rfl)
def rt9 : BT (List Row) := (.node 14 [⟨0, 0⟩, ⟨0, 0⟩, ⟨3, 3⟩, ⟨4, 4⟩, ⟨8, 8⟩, ⟨16, 16⟩, ⟨32, 32⟩, ⟨96, 96⟩, ⟨160, 160⟩, ⟨288, 256⟩, ⟨512, 512⟩, ⟨512, 512⟩, ⟨512, 512⟩, ⟨512, 512⟩, ⟨12800, 12800⟩, ⟨16896, 16896⟩, ⟨36352, 36352⟩, ⟨66048, 66048⟩] (.node 7 [⟨0, 0⟩, ⟨1, 1⟩, ⟨0, 0⟩, ⟨4, 4⟩, ⟨0, 0⟩, ⟨24, 24⟩, ⟨32, 32⟩, ⟨66, 66⟩, ⟨128, 128⟩, ⟨256, 256⟩] .nil .nil) .nil)
theorem rw9 : RowAt Tryz.prog 9 rt9 := qZi Tryz.func9 (by kernel_rfl)
def rt12 : BT (List Row) := (.node 12 [⟨0, 0⟩, ⟨1, 1⟩, ⟨2, 2⟩, ⟨0, 0⟩, ⟨8, 8⟩, ⟨16, 16⟩, ⟨36, 36⟩, ⟨66, 64⟩] .nil .nil)
theorem rw12 : RowAt Tryz.prog 12 rt12 := qZi Tryz.func12 (by kernel_rfl)
def rt14 : BT (List Row) := (.node 5 [⟨0, 0⟩, ⟨0, 0⟩, ⟨3, 3⟩, ⟨4, 4⟩, ⟨0, 0⟩, ⟨0, 0⟩, ⟨48, 48⟩, ⟨64, 64⟩, ⟨136, 136⟩] .nil .nil)
theorem rw14 : RowAt Tryz.prog 14 rt14 := qZi Tryz.func14 (by kernel_rfl)
def rt16 : BT (List Row) := (.node 23 [⟨0, 0⟩, ⟨0, 0⟩, ⟨0, 0⟩, ⟨6, 6⟩, ⟨8, 8⟩, ⟨0, 0⟩, ⟨0, 0⟩, ⟨0, 0⟩, ⟨192, 192⟩, ⟨256, 256⟩, ⟨512, 512⟩, ⟨1024, 1024⟩, ⟨1024, 1024⟩, ⟨7168, 7168⟩, ⟨9216, 9216⟩, ⟨17408, 17408⟩, ⟨17, 17⟩, ⟨65536, 65536⟩, ⟨196607, 131104⟩, ⟨327679, 294912⟩] (.node 12 [⟨0, 0⟩, ⟨0, 0⟩, ⟨0, 0⟩, ⟨0, 0⟩, ⟨12, 12⟩, ⟨16, 16⟩, ⟨35, 35⟩, ⟨0, 0⟩, ⟨255, 192⟩] .nil .nil) (.node 24 [⟨0, 0⟩, ⟨1, 1⟩, ⟨2, 2⟩, ⟨2, 2⟩, ⟨2, 2⟩, ⟨26, 26⟩, ⟨34, 34⟩, ⟨70, 70⟩, ⟨130, 130⟩, ⟨2, 2⟩, ⟨770, 770⟩, ⟨1026, 1026⟩, ⟨4095, 2049⟩] .nil .nil))
theorem rw16 : RowAt Tryz.prog 16 rt16 := qZi Tryz.func16 (by kernel_rfl)
def rt18 : BT (List Row) := (.node 1 [⟨0, 0⟩, ⟨1, 1⟩, ⟨0, 0⟩, ⟨6, 6⟩, ⟨8, 8⟩, ⟨0, 0⟩, ⟨32, 32⟩, ⟨0, 0⟩, ⟨192, 192⟩, ⟨256, 256⟩, ⟨0, 0⟩, ⟨1024, 1024⟩, ⟨0, 0⟩, ⟨6144, 6144⟩, ⟨8192, 8192⟩, ⟨31, 16⟩, ⟨33791, 512⟩, ⟨131071, 16384⟩] .nil .nil)
theorem rw18 : RowAt Tryz.prog 18 rt18 := qZi Tryz.func18 (by kernel_rfl)
def rt23 : BT (List Row) := (.node 11 [⟨0, 0⟩, ⟨0, 0⟩, ⟨3, 3⟩, ⟨4, 4⟩, ⟨0, 0⟩, ⟨0, 0⟩, ⟨32, 32⟩, ⟨80, 80⟩, ⟨128, 128⟩, ⟨264, 264⟩] (.node 6 [⟨0, 0⟩, ⟨0, 0⟩, ⟨3, 3⟩, ⟨4, 4⟩, ⟨0, 0⟩, ⟨0, 0⟩, ⟨32, 32⟩, ⟨80, 80⟩, ⟨128, 128⟩, ⟨264, 264⟩] .nil .nil) .nil)
theorem rw23 : RowAt Tryz.prog 23 rt23 := qZi Tryz.func23 (by kernel_rfl)
def rt25 : BT (List Row) := (.node 9 [⟨0, 0⟩, ⟨0, 0⟩, ⟨2, 2⟩, ⟨4, 4⟩, ⟨8, 8⟩, ⟨0, 0⟩, ⟨0, 0⟩, ⟨64, 64⟩, ⟨160, 160⟩, ⟨256, 256⟩, ⟨528, 528⟩, ⟨2047, 1⟩, ⟨4095, 2048⟩, ⟨6143, 5120⟩] .nil .nil)
theorem rw25 : RowAt Tryz.prog 25 rt25 := qZi Tryz.func25 (by kernel_rfl)
def rt44 : BT (List Row) := (.node 6 [⟨0, 0⟩, ⟨1, 1⟩, ⟨2, 2⟩, ⟨4, 4⟩, ⟨0, 0⟩, ⟨16, 16⟩, ⟨32, 32⟩, ⟨64, 64⟩, ⟨136, 136⟩, ⟨256, 256⟩, ⟨0, 0⟩, ⟨2047, 1536⟩] (.node 3 [⟨0, 0⟩, ⟨1, 1⟩, ⟨2, 2⟩, ⟨4, 4⟩, ⟨8, 8⟩, ⟨16, 16⟩, ⟨32, 32⟩, ⟨96, 96⟩, ⟨160, 160⟩, ⟨288, 288⟩, ⟨32, 32⟩, ⟨1056, 1056⟩, ⟨2080, 2080⟩, ⟨4128, 4128⟩, ⟨8224, 8224⟩, ⟨16928, 16928⟩, ⟨32800, 32800⟩] .nil .nil) .nil)
theorem rw44 : RowAt Tryz.prog 44 rt44 := qZi Tryz.func44 (by kernel_rfl)
def rt55 : BT (List Row) := (.node 8 [⟨0, 0⟩, ⟨0, 0⟩, ⟨2, 2⟩, ⟨4, 4⟩, ⟨8, 8⟩, ⟨16, 16⟩, ⟨32, 32⟩, ⟨0, 0⟩, ⟨128, 128⟩, ⟨256, 256⟩, ⟨512, 512⟩, ⟨1088, 1088⟩, ⟨0, 0⟩, ⟨4096, 4096⟩, ⟨10240, 10240⟩, ⟨16385, 16385⟩, ⟨65535, 32769⟩] .nil .nil)
theorem rw55 : RowAt Tryz.prog 55 rt55 := qZi Tryz.func55 (by kernel_rfl)
def rt58 : BT (List Row) := (.node 4 [⟨0, 0⟩, ⟨1, 1⟩, ⟨0, 0⟩, ⟨0, 0⟩, ⟨0, 0⟩, ⟨16, 16⟩, ⟨8, 8⟩, ⟨64, 64⟩, ⟨160, 160⟩, ⟨256, 256⟩, ⟨518, 518⟩, ⟨1024, 1024⟩, ⟨2048, 2048⟩, ⟨2048, 2048⟩, ⟨8191, 4096⟩, ⟨32767, 8192⟩] (.node 1 [⟨0, 0⟩, ⟨0, 0⟩, ⟨2, 2⟩, ⟨1, 1⟩, ⟨8, 8⟩, ⟨20, 20⟩, ⟨32, 32⟩, ⟨127, 64⟩] .nil .nil) .nil)
theorem rw58 : RowAt Tryz.prog 58 rt58 := qZi Tryz.func58 (by kernel_rfl)
def rt82 : BT (List Row) := (.node 9 [⟨0, 0⟩, ⟨1, 1⟩, ⟨2, 2⟩, ⟨4, 4⟩, ⟨0, 0⟩, ⟨0, 0⟩, ⟨0, 0⟩, ⟨64, 64⟩, ⟨32, 32⟩, ⟨256, 256⟩, ⟨640, 640⟩, ⟨1024, 1024⟩, ⟨2072, 2072⟩] (.node 1 [⟨0, 0⟩, ⟨0, 0⟩, ⟨2, 2⟩, ⟨1, 1⟩, ⟨8, 8⟩, ⟨20, 20⟩, ⟨32, 32⟩, ⟨0, 0⟩, ⟨128, 128⟩, ⟨256, 256⟩, ⟨576, 576⟩, ⟨2047, 1024⟩] .nil .nil) .nil)
theorem rw82 : RowAt Tryz.prog 82 rt82 := qZi Tryz.func82 (by kernel_rfl)
def rt83 : BT (List Row) := (.node 14 [⟨0, 0⟩, ⟨0, 0⟩, ⟨2, 2⟩, ⟨0, 0⟩, ⟨8, 8⟩, ⟨16, 16⟩, ⟨37, 37⟩] (.node 13 [⟨0, 0⟩, ⟨0, 0⟩, ⟨2, 2⟩, ⟨0, 0⟩, ⟨8, 8⟩, ⟨16, 16⟩, ⟨32, 32⟩, ⟨64, 64⟩, ⟨128, 128⟩, ⟨261, 261⟩] (.node 1 [⟨0, 0⟩, ⟨0, 0⟩, ⟨2, 2⟩, ⟨1, 1⟩, ⟨8, 8⟩, ⟨20, 20⟩, ⟨32, 32⟩, ⟨0, 0⟩, ⟨0, 0⟩, ⟨256, 256⟩, ⟨128, 128⟩, ⟨1024, 1024⟩, ⟨2560, 2560⟩, ⟨4096, 4096⟩, ⟨127, 64⟩, ⟨32767, 8192⟩] .nil .nil) .nil) (.node 16 [⟨0, 0⟩, ⟨0, 0⟩, ⟨2, 2⟩, ⟨4, 4⟩, ⟨8, 8⟩, ⟨0, 0⟩, ⟨32, 32⟩, ⟨64, 64⟩, ⟨145, 145⟩] .nil .nil))
theorem rw83 : RowAt Tryz.prog 83 rt83 := qZi Tryz.func83 (by kernel_rfl)
def rt101 : BT (List Row) := (.node 0 [⟨0, 0⟩, ⟨0, 0⟩, ⟨2, 2⟩, ⟨4, 4⟩, ⟨8, 8⟩, ⟨0, 0⟩, ⟨32, 32⟩, ⟨64, 64⟩, ⟨128, 128⟩, ⟨0, 0⟩, ⟨0, 0⟩, ⟨1792, 1792⟩, ⟨2048, 2048⟩, ⟨4112, 4112⟩, ⟨16383, 1⟩, ⟨32767, 16384⟩, ⟨49151, 40960⟩] .nil .nil)
theorem rw101 : RowAt Tryz.prog 101 rt101 := qZi Tryz.func101 (by kernel_rfl)
def rtB : RowT := (.node 23 rt23 (.node 12 rt12 (.node 8 rt8 (.node 7 rt7 (.node 5 rt5 .nil .nil) .nil) (.node 9 rt9 .nil .nil)) (.node 16 rt16 (.node 14 rt14 .nil .nil) (.node 18 rt18 .nil .nil))) (.node 58 rt58 (.node 44 rt44 (.node 25 rt25 .nil .nil) (.node 55 rt55 .nil .nil)) (.node 83 rt83 (.node 82 rt82 .nil .nil) (.node 101 rt101 .nil .nil))))
theorem rtB_ok : RtsOk Tryz.prog (rtsB rtB) := rtsB_ok ⟨rw23, ⟨rw12, ⟨rw8, ⟨rw7, ⟨rw5, trivial, trivial⟩, trivial⟩, ⟨rw9, trivial, trivial⟩⟩, ⟨rw16, ⟨rw14, trivial, trivial⟩, ⟨rw18, trivial, trivial⟩⟩⟩, ⟨rw58, ⟨rw44, ⟨rw25, trivial, trivial⟩, ⟨rw55, trivial, trivial⟩⟩, ⟨rw83, ⟨rw82, trivial, trivial⟩, ⟨rw101, trivial, trivial⟩⟩⟩⟩

theorem own : ownKnob Tryz.prog.godebug = none := by kernel_rfl
theorem laidOut : laidOutB Tryz.prog = true := by kernel_rfl
theorem nogo : (Tryz.prog.funcs.all fun fn => fn.name != "runtime.NumGoroutine") = true := by kernel_rfl
theorem mixedOk : Tryz.prog.follows .mixedOrders = true := by kernel_rfl
/-- the types whose values are compared with no panic -/
noncomputable def seqB (t : TypeId) : Bool := !Tryz.prog.eqGuardType Tryz.prog.depth t && !Tryz.prog.stoodInHeld t
/-- the tables that the row lays, as rows that come in -/
def tabsL : List InD := [⟨[.int .i64], qQx [.c 1, .c 1, .c 1, .c 1, .c 1, .c 1, .c 1, .c 1, .c 1, .c 1, .c 1, .c 1, .c 1, .c 1, .c 1, .c 1, .c 1, .c 3, .c 3, .c 3, .c 3, .c 2, .c 2, .c 1, .c 1, .c 1, .c 1, .c 1, .c 1, .c 1, .c 1, .c 1, .c 1, .c 2, .c 2, .c 1, .c 1, .c 1, .c 3, .c 3, .c 3, .c 1, .c 1], .c 43, .c 43, some 0⟩]
/-- n: how deep a number may be without a name (0: none is named) -/
noncomputable def cxOf (n : Nat) : Cx :=
  { P := Tryz.prog, Γ := [], Φ := phiN, F := fN, lf := lfN, ins := [], tabs := tabsL, sh := n, und := undB tyB, inf := infB tyB, fn := fnB fuB, seq := seqB,
    undOk := undB_ok tyB_ok, infOk := fun _ _ h => BT.find_all tyB_ok h, fnOk := fun _ _ h => BT.find_all fuB_ok h,
    seqOk := fun t h => by unfold seqB at h; simpa using h }
theorem cxOf_ok (n : Nat) (m : Rc) : CxOk (m.cx (cxOf n)) :=
  ⟨mixedOk, fun f fn h => by
    have h1 := Array.all_eq_true.1 nogo
    obtain ⟨h2, h3⟩ := Array.getElem?_eq_some_iff.1 h
    have := h1 f h2
    have h4 : (Tryz.prog.funcs[f]'h2) = fn := h3
    rw [h4] at this
    simpa using this⟩
/-- the same, with what comes in -/
noncomputable def cxG (n : Nat) (Γ : List (Int × Int)) (ins : List InD) : Cx := { cxOf n with Γ := Γ, ins := ins ++ tabsL }
theorem tabsAll : (tabsL.all fun d => d.c.vb 0 && (d.n.vb 0 && d.cap.vb 0)) = true := by kernel_rfl
theorem tabsG (n : Nat) (Γ : List (Int × Int)) (ins : List InD) : TabsOk (cxG n Γ ins) := ⟨⟨ins, rfl⟩, fun d hd => by have := List.all_eq_true.1 tabsAll d hd; simp only [Bool.and_eq_true] at this; exact this⟩
theorem cxG_ok (n : Nat) (Γ : List (Int × Int)) (ins : List InD) : CxOk (cxG n Γ ins) :=
  ⟨mixedOk, fun f fn h => by
    have h1 := Array.all_eq_true.1 nogo
    obtain ⟨h2, h3⟩ := Array.getElem?_eq_some_iff.1 h
    have := h1 f h2
    have h4 : (Tryz.prog.funcs[f]'h2) = fn := h3
    rw [h4] at this
    simpa using this⟩
/-- a contract holds however much is named, and whatever else comes in -/
theorem rc_n {n k : Nat} {Γ : List (Int × Int)} {ins : List InD} {m : Rc} (h : RcOk (cxOf n) m) : RcOk (cxG k Γ ins) m :=
  fun ρ w hρ hc hp hr => h ρ w ⟨hρ.hi, hρ.hf, hρ.hv, hρ.hF, hρ.hP, hρ.hro⟩ hc hp hr
theorem rh_n {n k : Nat} {Γ : List (Int × Int)} {ins : List InD} {m : Rh} (h : RhOk (cxOf n) m) : RhOk (cxG k Γ ins) m :=
  fun ρ β w hρ hp hs => h ρ β w ⟨hρ.hi, hρ.hf, hρ.hv, hρ.hF, hρ.hP, hρ.hro⟩ hp hs
theorem mg {α : Type} {l : List α} {a : α} (i : Nat) (h : l[i]? = some a) : a ∈ l := List.mem_of_getElem? h
/-- the engine's runs -/
abbrev SMs := List (Int × Int) → List InD → Nat → SM
def SMsOk (sm : SMs) : Prop := ∀ Γ ins n, SmOk (cxG n Γ ins) (sm Γ ins n)
noncomputable def runC (sm : SMs) (Γ : List (Int × Int)) (ins : List InD) (n : Nat) : CF := execFn (cxG n Γ ins) (rtsB rtB) (sm Γ ins n) (fun _ _ => none) 40 30
theorem xok0 (cx : Cx) : XOk cx (fun _ _ => none) := fun _ _ _ _ _ _ _ h => by cases h
theorem runC_ok {sm : SMs} (h : SMsOk sm) (Γ : List (Int × Int)) (ins : List InD) (n : Nat) : qKs (cxG n Γ ins) (runC sm Γ ins n) := execFn_ok (cxG_ok n Γ ins) rtB_ok (h Γ ins n) (xok0 _) _
noncomputable def runG (sm : SMs) (lhs : LHS) (Γ : List (Int × Int)) (ins : List InD) (n : Nat) : CFT := execFnT (cxG n Γ ins) (rtsB rtB) (sm Γ ins n) (fun _ _ => none) lhs (runC sm Γ ins n) 40 30
theorem runG_ok {sm : SMs} (h : SMsOk sm) (lhs : LHS) (Γ : List (Int × Int)) (ins : List InD) (n : Nat) : qJc (cxG n Γ ins) (runG sm lhs Γ ins n) :=
  execFnT_ok (cxG_ok n Γ ins) rtB_ok (h Γ ins n) (xok0 _) (runC_ok h Γ ins n) _
noncomputable def runT (sm : SMs) (lhs : LHS) (m : Rc) (n : Nat) : CFT := runG sm lhs (bdsF m.ls) (qXn m.b m.c m.ls 0 0 0) n
theorem runT_ok {sm : SMs} (h : SMsOk sm) (lhs : LHS) (m : Rc) (n : Nat) : qJc (m.cx (cxOf n)) (runT sm lhs m n) := runG_ok h lhs _ _ n
noncomputable def runH (sm : SMs) (lhs : LHS) (m : Rk) (n : Nat) : CFT := runG sm lhs m.Γ m.ins n
theorem runH_ok {sm : SMs} (h : SMsOk sm) (lhs : LHS) (m : Rk) (n : Nat) : qJc (m.rh.cx (cxOf n)) (runH sm lhs m n) := runG_ok h lhs m.Γ m.ins n
/-! the parts of a contract's proof -/
noncomputable def fineR (n : Nat) (m : Rc) (t : TT (List E)) : Bool := TT.fine (m.cx (cxOf n)) 1000 [] t && (m.cx (cxOf n)).okB 1000 && SV.vbL 1000 m.args && TT.tidy (m.cx (cxOf n)) [] t
noncomputable def ranR (us : SMs) (lhs : LHS) (m : Rc) (n : Nat) (t : TT (List E)) : Bool := TT.beq (projL (m.pj (cxOf n)) (runT us lhs m n m.f m.args ⟨[], []⟩)) t
def statR (n : Nat) (m : Rc) (t : TT (List E)) (ρ : Env) : Prop := TT.hdP (m.cx (cxOf n)) (rlF ρ m.res) t ρ
theorem okR {us : SMs} {lhs : LHS} {m : Rc} {n : Nat} {t : TT (List E)} (hu : SMsOk us) (h1 : ranR us lhs m n t = true) (h2 : fineR n m t = true) (h3 : m.ok = true)
    (h : ∀ i v ro p, EnvOk (m.cx (cxOf n)) ⟨i, fN, v, ro, p⟩ → (∀ d ∈ qXn m.b m.c m.ls 0 0 0, d.n.ev ⟨i, fN, v, ro, p⟩ ≤ d.cap.ev ⟨i, fN, v, ro, p⟩) → (∀ e ∈ m.pre, e.evP ⟨i, fN, v, ro, p⟩ ≠ 0) → statR n m t ⟨i, fN, v, ro, p⟩) : RcOk (cxOf n) m :=
  rc_run (runT_ok hu lhs m n) h1 h2 h3 fun ρ hρ hcap hpre => by
    obtain ⟨i, f, v, ro, p⟩ := ρ
    have hf : f = fN := hρ.hF
    subst hf
    exact h i v ro p hρ hcap hpre
noncomputable def fineH (n : Nat) (m : Rk) (t : TT (List E)) : Bool := TT.fine (m.rh.cx (cxOf n)) 1000 [] t && (m.rh.cx (cxOf n)).okB 1000 && SV.vbL 1000 m.args && TT.tidy (m.rh.cx (cxOf n)) [] t
noncomputable def ranH (us : SMs) (lhs : LHS) (m : Rk) (n : Nat) (t : TT (List E)) : Bool := TT.beq (projL (m.pj (cxOf n)) (runH us lhs m n m.f m.args ⟨m.inb, m.kn0⟩)) t
def statH (n : Nat) (m : Rk) (t : TT (List E)) (ρ : Env) : Prop := TT.hdP (m.rh.cx (cxOf n)) (rsF ρ m.rs) t ρ
theorem okH {us : SMs} {lhs : LHS} {m : Rk} {n : Nat} {t : TT (List E)} (hu : SMsOk us) (h1 : ranH us lhs m n t = true) (h2 : fineH n m t = true) (h4 : blVb 1000 m.inb = true) (h3 : m.ok = true)
    (h : ∀ i v ro p, EnvOk (m.rh.cx (cxOf n)) ⟨i, fN, v, ro, p⟩ → (∀ e ∈ m.pre, e.evP ⟨i, fN, v, ro, p⟩ ≠ 0) → statH n m t ⟨i, fN, v, ro, p⟩) : RhOk (cxOf n) m.rh :=
  rk_run (runH_ok hu lhs m n) h1 h2 h4 h3 fun ρ hρ hpre => by
    obtain ⟨i, f, v, ro, p⟩ := ρ
    have hf : f = fN := hρ.hF
    subst hf
    exact h i v ro p hρ hpre
theorem den_row (ρ : Env) (β : Bt) (k z i j : Nat) : (SV.sl (.inp k) z (.c 0) (.v i) (some (.v j))).den ρ β = .slice (ρ.ro k).a (ρ.i i).toNat (ρ.i j).toNat := by
  simp only [SV.den, E.ev, map_addr_zero]
end Go.Proofs.YteimodjkllldlabGreatDoor
