/-
  The program's tables of types, of functions and of all regions that draw their order, as trees; the engine at this program. Printed by program.
-/
import Derived.Test.YtdnkgacjibjlhaaGreatDoorGu5
import Derived.Test.YtdnkgacjibjlhaaGreatDoorRows
import Derived.WalkKit
import Derived.ProofKit
set_option linter.unusedVariables false
set_option linter.unusedSimpArgs false
namespace Go.Proofs.YtdnkgacjibjlhaaGreatDoor
open Go Go.Eng Go.RowKit
set_option maxRecDepth 100000
noncomputable def tyB : BT TypeInfo := (.node 66 Tryz.t66 (.node 26 Tryz.t26 (.node 21 Tryz.t21 (.node 4 Tryz.t4 (.node 3 Tryz.t3 (.node 2 Tryz.t2 .nil .nil) .nil) (.node 9 Tryz.t9 (.node 5 Tryz.t5 .nil .nil) .nil)) (.node 24 Tryz.t24 (.node 23 Tryz.t23 (.node 22 Tryz.t22 .nil .nil) .nil) (.node 25 Tryz.t25 .nil .nil))) (.node 52 Tryz.t52 (.node 33 Tryz.t33 (.node 30 Tryz.t30 (.node 27 Tryz.t27 .nil .nil) .nil) (.node 46 Tryz.t46 (.node 37 Tryz.t37 .nil .nil) .nil)) (.node 64 Tryz.t64 (.node 61 Tryz.t61 (.node 53 Tryz.t53 .nil .nil) .nil) (.node 65 Tryz.t65 .nil .nil)))) (.node 95 Tryz.t95 (.node 74 Tryz.t74 (.node 71 Tryz.t71 (.node 70 Tryz.t70 (.node 67 Tryz.t67 .nil .nil) .nil) (.node 73 Tryz.t73 (.node 72 Tryz.t72 .nil .nil) .nil)) (.node 91 Tryz.t91 (.node 90 Tryz.t90 (.node 87 Tryz.t87 .nil .nil) .nil) (.node 92 Tryz.t92 .nil .nil))) (.node 147 Tryz.t147 (.node 120 Tryz.t120 (.node 97 Tryz.t97 (.node 96 Tryz.t96 .nil .nil) .nil) (.node 140 Tryz.t140 .nil .nil)) (.node 158 Tryz.t158 (.node 157 Tryz.t157 (.node 156 Tryz.t156 .nil .nil) .nil) (.node 159 Tryz.t159 .nil .nil)))))
theorem tyB_ok : tyB.All fun i v => Tryz.prog.info? i = some v := ⟨Tryz.type66, ⟨Tryz.type26, ⟨Tryz.type21, ⟨Tryz.type4, ⟨Tryz.type3, ⟨Tryz.type2, trivial, trivial⟩, trivial⟩, ⟨Tryz.type9, ⟨Tryz.type5, trivial, trivial⟩, trivial⟩⟩, ⟨Tryz.type24, ⟨Tryz.type23, ⟨Tryz.type22, trivial, trivial⟩, trivial⟩, ⟨Tryz.type25, trivial, trivial⟩⟩⟩, ⟨Tryz.type52, ⟨Tryz.type33, ⟨Tryz.type30, ⟨Tryz.type27, trivial, trivial⟩, trivial⟩, ⟨Tryz.type46, ⟨Tryz.type37, trivial, trivial⟩, trivial⟩⟩, ⟨Tryz.type64, ⟨Tryz.type61, ⟨Tryz.type53, trivial, trivial⟩, trivial⟩, ⟨Tryz.type65, trivial, trivial⟩⟩⟩⟩, ⟨Tryz.type95, ⟨Tryz.type74, ⟨Tryz.type71, ⟨Tryz.type70, ⟨Tryz.type67, trivial, trivial⟩, trivial⟩, ⟨Tryz.type73, ⟨Tryz.type72, trivial, trivial⟩, trivial⟩⟩, ⟨Tryz.type91, ⟨Tryz.type90, ⟨Tryz.type87, trivial, trivial⟩, trivial⟩, ⟨Tryz.type92, trivial, trivial⟩⟩⟩, ⟨Tryz.type147, ⟨Tryz.type120, ⟨Tryz.type97, ⟨Tryz.type96, trivial, trivial⟩, trivial⟩, ⟨Tryz.type140, trivial, trivial⟩⟩, ⟨Tryz.type158, ⟨Tryz.type157, ⟨Tryz.type156, trivial, trivial⟩, trivial⟩, ⟨Tryz.type159, trivial, trivial⟩⟩⟩⟩⟩
noncomputable def fuB : BT Func := (.node 77 Tryz.f77 (.node 36 Tryz.f36 (.node 19 Tryz.f19 (.node 11 Tryz.f11 (.node 7 Tryz.f7 (.node 5 Tryz.f5 (.node 4 Tryz.f4 (.node 3 Tryz.f3 .nil .nil) .nil) (.node 6 Tryz.f6 .nil .nil)) (.node 9 Tryz.f9 (.node 8 Tryz.f8 .nil .nil) (.node 10 Tryz.f10 .nil .nil))) (.node 15 Tryz.f15 (.node 13 Tryz.f13 (.node 12 Tryz.f12 .nil .nil) (.node 14 Tryz.f14 .nil .nil)) (.node 17 Tryz.f17 (.node 16 Tryz.f16 .nil .nil) (.node 18 Tryz.f18 .nil .nil)))) (.node 28 Tryz.f28 (.node 24 Tryz.f24 (.node 22 Tryz.f22 (.node 21 Tryz.f21 (.node 20 Tryz.f20 .nil .nil) .nil) (.node 23 Tryz.f23 .nil .nil)) (.node 26 Tryz.f26 (.node 25 Tryz.f25 .nil .nil) (.node 27 Tryz.f27 .nil .nil))) (.node 32 Tryz.f32 (.node 30 Tryz.f30 (.node 29 Tryz.f29 .nil .nil) (.node 31 Tryz.f31 .nil .nil)) (.node 34 Tryz.f34 (.node 33 Tryz.f33 .nil .nil) (.node 35 Tryz.f35 .nil .nil))))) (.node 57 Tryz.f57 (.node 45 Tryz.f45 (.node 41 Tryz.f41 (.node 39 Tryz.f39 (.node 38 Tryz.f38 (.node 37 Tryz.f37 .nil .nil) .nil) (.node 40 Tryz.f40 .nil .nil)) (.node 43 Tryz.f43 (.node 42 Tryz.f42 .nil .nil) (.node 44 Tryz.f44 .nil .nil))) (.node 49 Tryz.f49 (.node 47 Tryz.f47 (.node 46 Tryz.f46 .nil .nil) (.node 48 Tryz.f48 .nil .nil)) (.node 55 Tryz.f55 (.node 54 Tryz.f54 .nil .nil) (.node 56 Tryz.f56 .nil .nil)))) (.node 66 Tryz.f66 (.node 62 Tryz.f62 (.node 60 Tryz.f60 (.node 59 Tryz.f59 (.node 58 Tryz.f58 .nil .nil) .nil) (.node 61 Tryz.f61 .nil .nil)) (.node 64 Tryz.f64 (.node 63 Tryz.f63 .nil .nil) (.node 65 Tryz.f65 .nil .nil))) (.node 70 Tryz.f70 (.node 68 Tryz.f68 (.node 67 Tryz.f67 .nil .nil) (.node 69 Tryz.f69 .nil .nil)) (.node 75 Tryz.f75 (.node 71 Tryz.f71 .nil .nil) (.node 76 Tryz.f76 .nil .nil)))))) (.node 118 Tryz.f118 (.node 94 Tryz.f94 (.node 86 Tryz.f86 (.node 82 Tryz.f82 (.node 80 Tryz.f80 (.node 79 Tryz.f79 (.node 78 Tryz.f78 .nil .nil) .nil) (.node 81 Tryz.f81 .nil .nil)) (.node 84 Tryz.f84 (.node 83 Tryz.f83 .nil .nil) (.node 85 Tryz.f85 .nil .nil))) (.node 90 Tryz.f90 (.node 88 Tryz.f88 (.node 87 Tryz.f87 .nil .nil) (.node 89 Tryz.f89 .nil .nil)) (.node 92 Tryz.f92 (.node 91 Tryz.f91 .nil .nil) (.node 93 Tryz.f93 .nil .nil)))) (.node 110 Tryz.f110 (.node 106 Tryz.f106 (.node 104 Tryz.f104 (.node 103 Tryz.f103 (.node 102 Tryz.f102 .nil .nil) .nil) (.node 105 Tryz.f105 .nil .nil)) (.node 108 Tryz.f108 (.node 107 Tryz.f107 .nil .nil) (.node 109 Tryz.f109 .nil .nil))) (.node 114 Tryz.f114 (.node 112 Tryz.f112 (.node 111 Tryz.f111 .nil .nil) (.node 113 Tryz.f113 .nil .nil)) (.node 116 Tryz.f116 (.node 115 Tryz.f115 .nil .nil) (.node 117 Tryz.f117 .nil .nil))))) (.node 140 Tryz.f140 (.node 132 Tryz.f132 (.node 123 Tryz.f123 (.node 121 Tryz.f121 (.node 120 Tryz.f120 (.node 119 Tryz.f119 .nil .nil) .nil) (.node 122 Tryz.f122 .nil .nil)) (.node 130 Tryz.f130 (.node 129 Tryz.f129 .nil .nil) (.node 131 Tryz.f131 .nil .nil))) (.node 136 Tryz.f136 (.node 134 Tryz.f134 (.node 133 Tryz.f133 .nil .nil) (.node 135 Tryz.f135 .nil .nil)) (.node 138 Tryz.f138 (.node 137 Tryz.f137 .nil .nil) (.node 139 Tryz.f139 .nil .nil)))) (.node 150 Tryz.f150 (.node 146 Tryz.f146 (.node 143 Tryz.f143 (.node 142 Tryz.f142 (.node 141 Tryz.f141 .nil .nil) .nil) (.node 144 Tryz.f144 .nil .nil)) (.node 148 Tryz.f148 (.node 147 Tryz.f147 .nil .nil) (.node 149 Tryz.f149 .nil .nil))) (.node 154 Tryz.f154 (.node 152 Tryz.f152 (.node 151 Tryz.f151 .nil .nil) (.node 153 Tryz.f153 .nil .nil)) (.node 156 Tryz.f156 (.node 155 Tryz.f155 .nil .nil) (.node 157 Tryz.f157 .nil .nil)))))))
theorem fuB_ok : fuB.All fun i v => Tryz.prog.funcs[i]? = some v := ⟨Tryz.func77, ⟨Tryz.func36, ⟨Tryz.func19, ⟨Tryz.func11, ⟨Tryz.func7, ⟨Tryz.func5, ⟨Tryz.func4, ⟨Tryz.func3, trivial, trivial⟩, trivial⟩, ⟨Tryz.func6, trivial, trivial⟩⟩, ⟨Tryz.func9, ⟨Tryz.func8, trivial, trivial⟩, ⟨Tryz.func10, trivial, trivial⟩⟩⟩, ⟨Tryz.func15, ⟨Tryz.func13, ⟨Tryz.func12, trivial, trivial⟩, ⟨Tryz.func14, trivial, trivial⟩⟩, ⟨Tryz.func17, ⟨Tryz.func16, trivial, trivial⟩, ⟨Tryz.func18, trivial, trivial⟩⟩⟩⟩, ⟨Tryz.func28, ⟨Tryz.func24, ⟨Tryz.func22, ⟨Tryz.func21, ⟨Tryz.func20, trivial, trivial⟩, trivial⟩, ⟨Tryz.func23, trivial, trivial⟩⟩, ⟨Tryz.func26, ⟨Tryz.func25, trivial, trivial⟩, ⟨Tryz.func27, trivial, trivial⟩⟩⟩, ⟨Tryz.func32, ⟨Tryz.func30, ⟨Tryz.func29, trivial, trivial⟩, ⟨Tryz.func31, trivial, trivial⟩⟩, ⟨Tryz.func34, ⟨Tryz.func33, trivial, trivial⟩, ⟨Tryz.func35, trivial, trivial⟩⟩⟩⟩⟩, ⟨Tryz.func57, ⟨Tryz.func45, ⟨Tryz.func41, ⟨Tryz.func39, ⟨Tryz.func38, ⟨Tryz.func37, trivial, trivial⟩, trivial⟩, ⟨Tryz.func40, trivial, trivial⟩⟩, ⟨Tryz.func43, ⟨Tryz.func42, trivial, trivial⟩, ⟨Tryz.func44, trivial, trivial⟩⟩⟩, ⟨Tryz.func49, ⟨Tryz.func47, ⟨Tryz.func46, trivial, trivial⟩, ⟨Tryz.func48, trivial, trivial⟩⟩, ⟨Tryz.func55, ⟨Tryz.func54, trivial, trivial⟩, ⟨Tryz.func56, trivial, trivial⟩⟩⟩⟩, ⟨Tryz.func66, ⟨Tryz.func62, ⟨Tryz.func60, ⟨Tryz.func59, ⟨Tryz.func58, trivial, trivial⟩, trivial⟩, ⟨Tryz.func61, trivial, trivial⟩⟩, ⟨Tryz.func64, ⟨Tryz.func63, trivial, trivial⟩, ⟨Tryz.func65, trivial, trivial⟩⟩⟩, ⟨Tryz.func70, ⟨Tryz.func68, ⟨Tryz.func67, trivial, trivial⟩, ⟨Tryz.func69, trivial, trivial⟩⟩, ⟨Tryz.func75, ⟨Tryz.func71, trivial, trivial⟩, ⟨Tryz.func76, trivial, trivial⟩⟩⟩⟩⟩⟩, ⟨Tryz.func118, ⟨Tryz.func94, ⟨Tryz.func86, ⟨Tryz.func82, ⟨Tryz.func80, ⟨Tryz.func79, ⟨Tryz.func78, trivial, trivial⟩, trivial⟩, ⟨Tryz.func81, trivial, trivial⟩⟩, ⟨Tryz.func84, ⟨Tryz.func83, trivial, trivial⟩, ⟨Tryz.func85, trivial, trivial⟩⟩⟩, ⟨Tryz.func90, ⟨Tryz.func88, ⟨Tryz.func87, trivial, trivial⟩, ⟨Tryz.func89, trivial, trivial⟩⟩, ⟨Tryz.func92, ⟨Tryz.func91, trivial, trivial⟩, ⟨Tryz.func93, trivial, trivial⟩⟩⟩⟩, ⟨Tryz.func110, ⟨Tryz.func106, ⟨Tryz.func104, ⟨Tryz.func103, ⟨Tryz.func102, trivial, trivial⟩, trivial⟩, ⟨Tryz.func105, trivial, trivial⟩⟩, ⟨Tryz.func108, ⟨Tryz.func107, trivial, trivial⟩, ⟨Tryz.func109, trivial, trivial⟩⟩⟩, ⟨Tryz.func114, ⟨Tryz.func112, ⟨Tryz.func111, trivial, trivial⟩, ⟨Tryz.func113, trivial, trivial⟩⟩, ⟨Tryz.func116, ⟨Tryz.func115, trivial, trivial⟩, ⟨Tryz.func117, trivial, trivial⟩⟩⟩⟩⟩, ⟨Tryz.func140, ⟨Tryz.func132, ⟨Tryz.func123, ⟨Tryz.func121, ⟨Tryz.func120, ⟨Tryz.func119, trivial, trivial⟩, trivial⟩, ⟨Tryz.func122, trivial, trivial⟩⟩, ⟨Tryz.func130, ⟨Tryz.func129, trivial, trivial⟩, ⟨Tryz.func131, trivial, trivial⟩⟩⟩, ⟨Tryz.func136, ⟨Tryz.func134, ⟨Tryz.func133, trivial, trivial⟩, ⟨Tryz.func135, trivial, trivial⟩⟩, ⟨Tryz.func138, ⟨Tryz.func137, trivial, trivial⟩, ⟨Tryz.func139, trivial, trivial⟩⟩⟩⟩, ⟨Tryz.func150, ⟨Tryz.func146, ⟨Tryz.func143, ⟨Tryz.func142, ⟨Tryz.func141, trivial, trivial⟩, trivial⟩, ⟨Tryz.func144, trivial, trivial⟩⟩, ⟨Tryz.func148, ⟨Tryz.func147, trivial, trivial⟩, ⟨Tryz.func149, trivial, trivial⟩⟩⟩, ⟨Tryz.func154, ⟨Tryz.func152, ⟨Tryz.func151, trivial, trivial⟩, ⟨Tryz.func153, trivial, trivial⟩⟩, ⟨Tryz.func156, ⟨Tryz.func155, trivial, trivial⟩, ⟨Tryz.func157, trivial, trivial⟩⟩⟩⟩⟩⟩⟩
def rt3 : BT (List Row) := (.node 11 [⟨0, 0⟩, ⟨1, 1⟩, ⟨0, 0⟩, ⟨4, 4⟩, ⟨10, 10⟩, ⟨31, 16⟩] .nil .nil)
theorem rw3 : RowAt Tryz.prog 3 rt3 := qZr Tryz.func3 (by kernel_rfl)
def rt6 : BT (List Row) := (.node 26 [⟨0, 0⟩, ⟨1, 1⟩, ⟨2, 2⟩, ⟨0, 0⟩, ⟨8, 8⟩, ⟨20, 16⟩, ⟨7, 0⟩, ⟨103, 68⟩, ⟨255, 0⟩, ⟨511, 288⟩] (.node 25 [⟨0, 0⟩, ⟨1, 1⟩, ⟨2, 2⟩, ⟨0, 0⟩, ⟨8, 8⟩, ⟨20, 16⟩, ⟨7, 0⟩, ⟨103, 68⟩, ⟨255, 0⟩, ⟨511, 288⟩] .nil .nil) .nil)
theorem rw6 : RowAt Tryz.prog 6 rt6 := qZr Tryz.func6 (by kernel_rfl)
def rt7 : BT (List Row) := (.node 9 [⟨0, 0⟩, ⟨0, 0⟩, ⟨2, 2⟩, ⟨4, 4⟩, ⟨8, 8⟩, ⟨0, 0⟩, ⟨0, 0⟩, ⟨64, 64⟩, ⟨160, 160⟩, ⟨256, 256⟩, ⟨528, 528⟩, ⟨2047, 1⟩, ⟨4095, 2048⟩, ⟨6143, 5120⟩] .nil .nil)
theorem rw7 : RowAt Tryz.prog 7 rt7 := qZr Tryz.func7 (by kernel_rfl)
def rt9 : BT (List Row) := (.node 6 [⟨0, 0⟩, ⟨0, 0⟩, ⟨0, 0⟩, ⟨0, 0⟩, ⟨12, 12⟩, ⟨16, 16⟩, ⟨32, 32⟩, ⟨66, 66⟩, ⟨0, 0⟩, ⟨0, 0⟩, ⟨768, 768⟩, ⟨1024, 1024⟩, ⟨2048, 2048⟩, ⟨0, 0⟩, ⟨0, 0⟩, ⟨24576, 24576⟩, ⟨32768, 32768⟩, ⟨65536, 65536⟩, ⟨135296, 135296⟩, ⟨262144, 262144⟩, ⟨524417, 524289⟩, ⟨2097151, 1048577⟩] .nil .nil)
theorem rw9 : RowAt Tryz.prog 9 rt9 := qZr Tryz.func9 (by kernel_rfl)
def rt12 : BT (List Row) := (.node 6 [⟨0, 0⟩, ⟨0, 0⟩, ⟨3, 3⟩, ⟨4, 4⟩, ⟨0, 0⟩, ⟨0, 0⟩, ⟨48, 48⟩, ⟨64, 64⟩, ⟨136, 136⟩] .nil .nil)
theorem rw12 : RowAt Tryz.prog 12 rt12 := qZr Tryz.func12 (by kernel_rfl)
def rt13 : BT (List Row) := (.node 6 [⟨0, 0⟩, ⟨0, 0⟩, ⟨3, 3⟩, ⟨4, 4⟩, ⟨0, 0⟩, ⟨0, 0⟩, ⟨48, 48⟩, ⟨64, 64⟩, ⟨136, 136⟩] .nil .nil)
theorem rw13 : RowAt Tryz.prog 13 rt13 := qZr Tryz.func13 (by kernel_rfl)
def rt16 : BT (List Row) := (.node 12 [⟨0, 0⟩, ⟨1, 1⟩, ⟨2, 2⟩, ⟨0, 0⟩, ⟨8, 8⟩, ⟨16, 16⟩, ⟨36, 36⟩, ⟨66, 64⟩] .nil .nil)
theorem rw16 : RowAt Tryz.prog 16 rt16 := qZr Tryz.func16 (by kernel_rfl)
def rt20 : BT (List Row) := (.node 8 [⟨0, 0⟩, ⟨0, 0⟩, ⟨2, 2⟩, ⟨4, 4⟩, ⟨8, 8⟩, ⟨16, 16⟩, ⟨32, 32⟩, ⟨0, 0⟩, ⟨128, 128⟩, ⟨256, 256⟩, ⟨512, 512⟩, ⟨1088, 1088⟩, ⟨0, 0⟩, ⟨4096, 4096⟩, ⟨10240, 10240⟩, ⟨16385, 16385⟩, ⟨65535, 32769⟩] .nil .nil)
theorem rw20 : RowAt Tryz.prog 20 rt20 := qZr Tryz.func20 (by kernel_rfl)
def rt26 : BT (List Row) := (.node 6 [⟨0, 0⟩, ⟨1, 1⟩, ⟨2, 2⟩, ⟨4, 4⟩, ⟨0, 0⟩, ⟨16, 16⟩, ⟨32, 32⟩, ⟨64, 64⟩, ⟨136, 136⟩, ⟨256, 256⟩, ⟨0, 0⟩, ⟨2047, 1536⟩] (.node 3 [⟨0, 0⟩, ⟨1, 1⟩, ⟨2, 2⟩, ⟨4, 4⟩, ⟨8, 8⟩, ⟨16, 16⟩, ⟨32, 32⟩, ⟨96, 96⟩, ⟨160, 160⟩, ⟨288, 288⟩, ⟨32, 32⟩, ⟨1056, 1056⟩, ⟨2080, 2080⟩, ⟨4128, 4128⟩, ⟨8224, 8224⟩, ⟨16928, 16928⟩, ⟨32800, 32800⟩] .nil .nil) .nil)
theorem rw26 : RowAt Tryz.prog 26 rt26 := qZr Tryz.func26 (by kernel_rfl)
def rt35 : BT (List Row) := (.node 11 [⟨0, 0⟩, ⟨0, 0⟩, ⟨3, 3⟩, ⟨4, 4⟩, ⟨0, 0⟩, ⟨0, 0⟩, ⟨32, 32⟩, ⟨80, 80⟩, ⟨128, 128⟩, ⟨264, 264⟩] (.node 6 [⟨0, 0⟩, ⟨0, 0⟩, ⟨3, 3⟩, ⟨4, 4⟩, ⟨0, 0⟩, ⟨0, 0⟩, ⟨32, 32⟩, ⟨80, 80⟩, ⟨128, 128⟩, ⟨264, 264⟩] .nil .nil) .nil)
theorem rw35 : RowAt Tryz.prog 35 rt35 := qZr Tryz.func35 (by kernel_rfl)
def rt44 : BT (List Row) := (.node 4 [⟨0, 0⟩, ⟨1, 1⟩, ⟨0, 0⟩, ⟨0, 0⟩, ⟨0, 0⟩, ⟨16, 16⟩, ⟨8, 8⟩, ⟨64, 64⟩, ⟨160, 160⟩, ⟨256, 256⟩, ⟨518, 518⟩, ⟨1024, 1024⟩, ⟨2048, 2048⟩, ⟨2048, 2048⟩, ⟨8191, 4096⟩, ⟨32767, 8192⟩] (.node 1 [⟨0, 0⟩, ⟨0, 0⟩, ⟨2, 2⟩, ⟨1, 1⟩, ⟨8, 8⟩, ⟨20, 20⟩, ⟨32, 32⟩, ⟨127, 64⟩] .nil .nil) .nil)
theorem rw44 : RowAt Tryz.prog 44 rt44 := qZr Tryz.func44 (by kernel_rfl)
def rt65 : BT (List Row) := (.node 9 [⟨0, 0⟩, ⟨1, 1⟩, ⟨2, 2⟩, ⟨4, 4⟩, ⟨0, 0⟩, ⟨0, 0⟩, ⟨0, 0⟩, ⟨64, 64⟩, ⟨32, 32⟩, ⟨256, 256⟩, ⟨640, 640⟩, ⟨1024, 1024⟩, ⟨2072, 2072⟩] (.node 1 [⟨0, 0⟩, ⟨0, 0⟩, ⟨2, 2⟩, ⟨1, 1⟩, ⟨8, 8⟩, ⟨20, 20⟩, ⟨32, 32⟩, ⟨0, 0⟩, ⟨128, 128⟩, ⟨256, 256⟩, ⟨576, 576⟩, ⟨2047, 1024⟩] .nil .nil) .nil)
theorem rw65 : RowAt Tryz.prog 65 rt65 := qZr Tryz.func65 (by kernel_rfl)
def rt66 : BT (List Row) := (.node 14 [⟨0, 0⟩, ⟨0, 0⟩, ⟨2, 2⟩, ⟨0, 0⟩, ⟨8, 8⟩, ⟨16, 16⟩, ⟨37, 37⟩] (.node 13 [⟨0, 0⟩, ⟨0, 0⟩, ⟨2, 2⟩, ⟨0, 0⟩, ⟨8, 8⟩, ⟨16, 16⟩, ⟨32, 32⟩, ⟨64, 64⟩, ⟨128, 128⟩, ⟨261, 261⟩] (.node 1 [⟨0, 0⟩, ⟨0, 0⟩, ⟨2, 2⟩, ⟨1, 1⟩, ⟨8, 8⟩, ⟨20, 20⟩, ⟨32, 32⟩, ⟨0, 0⟩, ⟨0, 0⟩, ⟨256, 256⟩, ⟨128, 128⟩, ⟨1024, 1024⟩, ⟨2560, 2560⟩, ⟨4096, 4096⟩, ⟨127, 64⟩, ⟨32767, 8192⟩] .nil .nil) .nil) (.node 16 [⟨0, 0⟩, ⟨0, 0⟩, ⟨2, 2⟩, ⟨4, 4⟩, ⟨8, 8⟩, ⟨0, 0⟩, ⟨32, 32⟩, ⟨64, 64⟩, ⟨145, 145⟩] .nil .nil))
theorem rw66 : RowAt Tryz.prog 66 rt66 := qZr Tryz.func66 (by kernel_rfl)
def rt70 : BT (List Row) := (.node 17 [⟨0, 0⟩, ⟨1, 1⟩, ⟨2, 2⟩, ⟨4, 4⟩, ⟨4, 4⟩, ⟨20, 20⟩, ⟨44, 44⟩, ⟨68, 68⟩, ⟨4, 4⟩, ⟨4, 4⟩, ⟨772, 772⟩, ⟨1028, 1028⟩, ⟨2180, 2180⟩, ⟨4100, 4100⟩, ⟨8196, 8196⟩] .nil .nil)
theorem rw70 : RowAt Tryz.prog 70 rt70 := qZr Tryz.func70 (by kernel_rfl)
def rt86 : BT (List Row) := (.node 0 [⟨0, 0⟩, ⟨0, 0⟩, ⟨2, 2⟩, ⟨4, 4⟩, ⟨8, 8⟩, ⟨0, 0⟩, ⟨32, 32⟩, ⟨64, 64⟩, ⟨128, 128⟩, ⟨0, 0⟩, ⟨0, 0⟩, ⟨1792, 1792⟩, ⟨2048, 2048⟩, ⟨4112, 4112⟩, ⟨16383, 1⟩, ⟨32767, 16384⟩, ⟨49151, 40960⟩] .nil .nil)
theorem rw86 : RowAt Tryz.prog 86 rt86 := qZr Tryz.func86 (by kernel_rfl)
def rt94 : BT (List Row) := (.node 6 [⟨0, 0⟩, ⟨0, 0⟩, ⟨0, 0⟩, ⟨0, 0⟩, ⟨8, 8⟩, ⟨0, 0⟩, ⟨0, 0⟩, ⟨64, 64⟩, ⟨160, 160⟩, ⟨256, 256⟩, ⟨0, 0⟩, ⟨0, 0⟩, ⟨3072, 3072⟩, ⟨4096, 4096⟩, ⟨9187, 3⟩, ⟨25571, 16896⟩, ⟨65535, 20⟩, ⟨131071, 73728⟩] (.node 4 [⟨0, 0⟩, ⟨0, 0⟩, ⟨3, 3⟩, ⟨4, 4⟩, ⟨8, 8⟩, ⟨8, 8⟩, ⟨56, 56⟩, ⟨72, 72⟩, ⟨8, 8⟩, ⟨8, 8⟩, ⟨520, 520⟩, ⟨1288, 1288⟩, ⟨2056, 2056⟩, ⟨4232, 4232⟩, ⟨8200, 8200⟩] .nil .nil) .nil)
theorem rw94 : RowAt Tryz.prog 94 rt94 := qZr Tryz.func94 (by kernel_rfl)
def rtB : RowT := (.node 26 rt26 (.node 12 rt12 (.node 7 rt7 (.node 6 rt6 (.node 3 rt3 .nil .nil) .nil) (.node 9 rt9 .nil .nil)) (.node 16 rt16 (.node 13 rt13 .nil .nil) (.node 20 rt20 .nil .nil))) (.node 66 rt66 (.node 44 rt44 (.node 35 rt35 .nil .nil) (.node 65 rt65 .nil .nil)) (.node 86 rt86 (.node 70 rt70 .nil .nil) (.node 94 rt94 .nil .nil))))
theorem rtB_ok : RtsOk Tryz.prog (rtsB rtB) := rtsB_ok ⟨rw26, ⟨rw12, ⟨rw7, ⟨rw6, ⟨rw3, trivial, trivial⟩, trivial⟩, ⟨rw9, trivial, trivial⟩⟩, ⟨rw16, ⟨rw13, trivial, trivial⟩, ⟨rw20, trivial, trivial⟩⟩⟩, ⟨rw66, ⟨rw44, ⟨rw35, trivial, trivial⟩, ⟨rw65, trivial, trivial⟩⟩, ⟨rw86, ⟨rw70, trivial, trivial⟩, ⟨rw94, trivial, trivial⟩⟩⟩⟩

theorem own : ownKnob Tryz.prog.godebug = none := by kernel_rfl
theorem laidOut : laidOutB Tryz.prog = true := by kernel_rfl
theorem nogo : (Tryz.prog.funcs.all fun fn => fn.name != "runtime.NumGoroutine") = true := by kernel_rfl
theorem mixedOk : Tryz.prog.follows .mixedOrders = true := by kernel_rfl
/-- the types whose values are compared with no panic -/
noncomputable def seqB (t : TypeId) : Bool := !Tryz.prog.eqGuardType Tryz.prog.depth t && !Tryz.prog.stoodInHeld t
/-- the tables that the row lays, as rows that come in -/
def tabsL : List InD := [⟨[.int .i64], qQm [.c 1, .c 1, .c 1, .c 1, .c 1, .c 1, .c 1, .c 1, .c 1, .c 1, .c 1, .c 1, .c 1, .c 1, .c 1, .c 1, .c 1, .c 3, .c 3, .c 3, .c 3, .c 2, .c 2, .c 1, .c 1, .c 1, .c 1, .c 1, .c 1, .c 1, .c 1, .c 1, .c 1, .c 2, .c 2, .c 1, .c 1, .c 1, .c 3, .c 3, .c 3, .c 1, .c 1], .c 43, .c 43, some 0⟩]
/-- n: how deep a number may be without a name (0: none is named) -/
noncomputable def cxOf (n : Nat) : Cx :=
  { P := Tryz.prog, Γ := [], Φ := phiN, F := fN, lf := lfN, ins := [], tabs := tabsL, sh := n, und := undB tyB, inf := infB tyB, fn := fnB fuB, seq := seqB,
    undOk := undB_ok tyB_ok, infOk := fun _ _ h => BT.find_all tyB_ok h, fnOk := fun _ _ h => BT.find_all fuB_ok h,
    seqOk := fun t h => by unfold seqB at h; simpa using h }
theorem cxOf_ok (n : Nat) (m : Rc) : CxOk (m.cx (cxOf n)) :=
  ⟨mixedOk, fun f fn h => by
    have h1 := Array.all_eq_true.1 nogo
    obtain ⟨h2, h3⟩ := Array.getElem?_eq_some_iff.1 h
    have := h1 f h2
    have h4 : (Tryz.prog.funcs[f]'h2) = fn := h3
    rw [h4] at this
    simpa using this⟩
/-- the same, with what comes in -/
noncomputable def cxG (n : Nat) (Γ : List (Int × Int)) (ins : List InD) : Cx := { cxOf n with Γ := Γ, ins := ins ++ tabsL }
theorem tabsAll : (tabsL.all fun d => d.c.vb 0 && (d.n.vb 0 && d.cap.vb 0)) = true := by kernel_rfl
theorem tabsG (n : Nat) (Γ : List (Int × Int)) (ins : List InD) : TabsOk (cxG n Γ ins) := ⟨⟨ins, rfl⟩, fun d hd => by have := List.all_eq_true.1 tabsAll d hd; simp only [Bool.and_eq_true] at this; exact this⟩
theorem cxG_ok (n : Nat) (Γ : List (Int × Int)) (ins : List InD) : CxOk (cxG n Γ ins) :=
  ⟨mixedOk, fun f fn h => by
    have h1 := Array.all_eq_true.1 nogo
    obtain ⟨h2, h3⟩ := Array.getElem?_eq_some_iff.1 h
    have := h1 f h2
    have h4 : (Tryz.prog.funcs[f]'h2) = fn := h3
    rw [h4] at this
    simpa using this⟩
/-- a contract holds however much is named, and whatever else comes in -/
theorem rc_n {n k : Nat} {Γ : List (Int × Int)} {ins : List InD} {m : Rc} (h : RcOk (cxOf n) m) : RcOk (cxG k Γ ins) m :=
  fun ρ w hρ hc hp hr => h ρ w ⟨hρ.hi, hρ.hf, hρ.hv, hρ.hF, hρ.hP, hρ.hro⟩ hc hp hr
theorem rh_n {n k : Nat} {Γ : List (Int × Int)} {ins : List InD} {m : Rh} (h : RhOk (cxOf n) m) : RhOk (cxG k Γ ins) m :=
  fun ρ β w hρ hp hs => h ρ β w ⟨hρ.hi, hρ.hf, hρ.hv, hρ.hF, hρ.hP, hρ.hro⟩ hp hs
theorem mg {α : Type} {l : List α} {a : α} (i : Nat) (h : l[i]? = some a) : a ∈ l := List.mem_of_getElem? h
/-- the engine's runs -/
abbrev SMs := List (Int × Int) → List InD → Nat → SM
def SMsOk (sm : SMs) : Prop := ∀ Γ ins n, SmOk (cxG n Γ ins) (sm Γ ins n)
noncomputable def runC (sm : SMs) (Γ : List (Int × Int)) (ins : List InD) (n : Nat) : CF := execFn (cxG n Γ ins) (rtsB rtB) (sm Γ ins n) (fun _ _ => none) 40 30
theorem xok0 (cx : Cx) : XOk cx (fun _ _ => none) := fun _ _ _ _ _ _ _ h => by cases h
theorem runC_ok {sm : SMs} (h : SMsOk sm) (Γ : List (Int × Int)) (ins : List InD) (n : Nat) : qKr (cxG n Γ ins) (runC sm Γ ins n) := execFn_ok (cxG_ok n Γ ins) rtB_ok (h Γ ins n) (xok0 _) _
noncomputable def runG (sm : SMs) (lhs : LHS) (Γ : List (Int × Int)) (ins : List InD) (n : Nat) : CFT := execFnT (cxG n Γ ins) (rtsB rtB) (sm Γ ins n) (fun _ _ => none) lhs (runC sm Γ ins n) 40 30
theorem runG_ok {sm : SMs} (h : SMsOk sm) (lhs : LHS) (Γ : List (Int × Int)) (ins : List InD) (n : Nat) : qJg (cxG n Γ ins) (runG sm lhs Γ ins n) :=
  execFnT_ok (cxG_ok n Γ ins) rtB_ok (h Γ ins n) (xok0 _) (runC_ok h Γ ins n) _
noncomputable def runT (sm : SMs) (lhs : LHS) (m : Rc) (n : Nat) : CFT := runG sm lhs (bdsF m.ls) (qXm m.b m.c m.ls 0 0 0) n
theorem runT_ok {sm : SMs} (h : SMsOk sm) (lhs : LHS) (m : Rc) (n : Nat) : qJg (m.cx (cxOf n)) (runT sm lhs m n) := runG_ok h lhs _ _ n
noncomputable def runH (sm : SMs) (lhs : LHS) (m : Rk) (n : Nat) : CFT := runG sm lhs m.Γ m.ins n
theorem runH_ok {sm : SMs} (h : SMsOk sm) (lhs : LHS) (m : Rk) (n : Nat) : qJg (m.rh.cx (cxOf n)) (runH sm lhs m n) := runG_ok h lhs m.Γ m.ins n
/-! the parts of a contract's proof -/
noncomputable def fineR (n : Nat) (m : Rc) (t : TT (List E)) : Bool := TT.fine (m.cx (cxOf n)) 1000 [] t && (m.cx (cxOf n)).okB 1000 && SV.vbL 1000 m.args && TT.tidy (m.cx (cxOf n)) [] t
noncomputable def ranR (us : SMs) (lhs : LHS) (m : Rc) (n : Nat) (t : TT (List E)) : Bool := TT.beq (projL (m.pj (cxOf n)) (runT us lhs m n m.f m.args ⟨[], m.kn0⟩)) t
def statR (n : Nat) (m : Rc) (t : TT (List E)) (ρ : Env) : Prop := TT.hdP (m.cx (cxOf n)) (rlF ρ m.res) t ρ
theorem okR {us : SMs} {lhs : LHS} {m : Rc} {n : Nat} {t : TT (List E)} (hu : SMsOk us) (h1 : ranR us lhs m n t = true) (h2 : fineR n m t = true) (h3 : m.ok = true)
    (h : ∀ i v ro p, EnvOk (m.cx (cxOf n)) ⟨i, fN, v, ro, p⟩ → (∀ d ∈ qXm m.b m.c m.ls 0 0 0, d.n.ev ⟨i, fN, v, ro, p⟩ ≤ d.cap.ev ⟨i, fN, v, ro, p⟩) → (∀ e ∈ m.pre, e.evP ⟨i, fN, v, ro, p⟩ ≠ 0) → statR n m t ⟨i, fN, v, ro, p⟩) : RcOk (cxOf n) m :=
  rc_run (runT_ok hu lhs m n) h1 h2 h3 fun ρ hρ hcap hpre => by
    obtain ⟨i, f, v, ro, p⟩ := ρ
    have hf : f = fN := hρ.hF
    subst hf
    exact h i v ro p hρ hcap hpre
noncomputable def fineH (n : Nat) (m : Rk) (t : TT (List E)) : Bool := TT.fine (m.rh.cx (cxOf n)) 1000 [] t && (m.rh.cx (cxOf n)).okB 1000 && SV.vbL 1000 m.args && TT.tidy (m.rh.cx (cxOf n)) [] t
noncomputable def ranH (us : SMs) (lhs : LHS) (m : Rk) (n : Nat) (t : TT (List E)) : Bool := TT.beq (projL (m.pj (cxOf n)) (runH us lhs m n m.f m.args ⟨m.inb, m.kn0⟩)) t
def statH (n : Nat) (m : Rk) (t : TT (List E)) (ρ : Env) : Prop := TT.hdP (m.rh.cx (cxOf n)) (rsF ρ m.rs) t ρ
theorem okH {us : SMs} {lhs : LHS} {m : Rk} {n : Nat} {t : TT (List E)} (hu : SMsOk us) (h1 : ranH us lhs m n t = true) (h2 : fineH n m t = true) (h4 : blVb 1000 m.inb = true) (h3 : m.ok = true)
    (h : ∀ i v ro p, EnvOk (m.rh.cx (cxOf n)) ⟨i, fN, v, ro, p⟩ → (∀ e ∈ m.pre, e.evP ⟨i, fN, v, ro, p⟩ ≠ 0) → statH n m t ⟨i, fN, v, ro, p⟩) : RhOk (cxOf n) m.rh :=
  rk_run (runH_ok hu lhs m n) h1 h2 h4 h3 fun ρ hρ hpre => by
    obtain ⟨i, f, v, ro, p⟩ := ρ
    have hf : f = fN := hρ.hF
    subst hf
    exact h i v ro p hρ hpre
theorem den_row (ρ : Env) (β : Bt) (k z i j : Nat) : (SV.sl (.inp k) z (.c 0) (.v i) (some (.v j))).den ρ β = .slice (ρ.ro k).a (ρ.i i).toNat (ρ.i j).toNat := by
  simp only [SV.den, E.ev, qKy]
end Go.Proofs.YtdnkgacjibjlhaaGreatDoor
