/-
  The program's tables of types, of functions and of all regions that draw their order, as trees; the engine at this program. Printed by program.
-/
import Derived.Test.YthfckifhnaoopabGreatDoorGu5
import Derived.Test.YthfckifhnaoopabGreatDoorRows
import Derived.WalkKit
import Derived.ProofKit
set_option linter.unusedVariables false
set_option linter.unusedSimpArgs false
namespace Go.Proofs.YthfckifhnaoopabGreatDoor
open Go Go.Eng Go.RowKit
set_option maxRecDepth 100000
noncomputable def tyB : BT TypeInfo := (.node 71 Tryz.t71 (.node 29 Tryz.t29 (.node 21 Tryz.t21 (.node 4 Tryz.t4 (.node 3 Tryz.t3 (.node 2 Tryz.t2 .nil .nil) .nil) (.node 9 Tryz.t9 (.node 5 Tryz.t5 .nil .nil) .nil)) (.node 26 Tryz.t26 (.node 23 Tryz.t23 (.node 22 Tryz.t22 .nil .nil) .nil) (.node 28 Tryz.t28 .nil .nil))) (.node 43 Tryz.t43 (.node 34 Tryz.t34 (.node 33 Tryz.t33 (.node 30 Tryz.t30 .nil .nil) .nil) (.node 38 Tryz.t38 (.node 35 Tryz.t35 .nil .nil) .nil)) (.node 52 Tryz.t52 (.node 51 Tryz.t51 (.node 49 Tryz.t49 .nil .nil) .nil) (.node 53 Tryz.t53 .nil .nil)))) (.node 87 Tryz.t87 (.node 80 Tryz.t80 (.node 77 Tryz.t77 (.node 76 Tryz.t76 (.node 73 Tryz.t73 .nil .nil) .nil) (.node 79 Tryz.t79 (.node 78 Tryz.t78 .nil .nil) .nil)) (.node 84 Tryz.t84 (.node 83 Tryz.t83 (.node 81 Tryz.t81 .nil .nil) .nil) (.node 86 Tryz.t86 .nil .nil))) (.node 143 Tryz.t143 (.node 100 Tryz.t100 (.node 89 Tryz.t89 (.node 88 Tryz.t88 .nil .nil) .nil) (.node 136 Tryz.t136 (.node 101 Tryz.t101 .nil .nil) .nil)) (.node 149 Tryz.t149 (.node 148 Tryz.t148 (.node 147 Tryz.t147 .nil .nil) .nil) (.node 150 Tryz.t150 .nil .nil)))))
theorem tyB_ok : tyB.All fun i v => Tryz.prog.info? i = some v := ⟨Tryz.type71, ⟨Tryz.type29, ⟨Tryz.type21, ⟨Tryz.type4, ⟨Tryz.type3, ⟨Tryz.type2, trivial, trivial⟩, trivial⟩, ⟨Tryz.type9, ⟨Tryz.type5, trivial, trivial⟩, trivial⟩⟩, ⟨Tryz.type26, ⟨Tryz.type23, ⟨Tryz.type22, trivial, trivial⟩, trivial⟩, ⟨Tryz.type28, trivial, trivial⟩⟩⟩, ⟨Tryz.type43, ⟨Tryz.type34, ⟨Tryz.type33, ⟨Tryz.type30, trivial, trivial⟩, trivial⟩, ⟨Tryz.type38, ⟨Tryz.type35, trivial, trivial⟩, trivial⟩⟩, ⟨Tryz.type52, ⟨Tryz.type51, ⟨Tryz.type49, trivial, trivial⟩, trivial⟩, ⟨Tryz.type53, trivial, trivial⟩⟩⟩⟩, ⟨Tryz.type87, ⟨Tryz.type80, ⟨Tryz.type77, ⟨Tryz.type76, ⟨Tryz.type73, trivial, trivial⟩, trivial⟩, ⟨Tryz.type79, ⟨Tryz.type78, trivial, trivial⟩, trivial⟩⟩, ⟨Tryz.type84, ⟨Tryz.type83, ⟨Tryz.type81, trivial, trivial⟩, trivial⟩, ⟨Tryz.type86, trivial, trivial⟩⟩⟩, ⟨Tryz.type143, ⟨Tryz.type100, ⟨Tryz.type89, ⟨Tryz.type88, trivial, trivial⟩, trivial⟩, ⟨Tryz.type136, ⟨Tryz.type101, trivial, trivial⟩, trivial⟩⟩, ⟨Tryz.type149, ⟨Tryz.type148, ⟨Tryz.type147, trivial, trivial⟩, trivial⟩, ⟨Tryz.type150, trivial, trivial⟩⟩⟩⟩⟩
noncomputable def fuB : BT Func := (.node 86 Tryz.f86 (.node 42 Tryz.f42 (.node 19 Tryz.f19 (.node 12 Tryz.f12 (.node 6 Tryz.f6 (.node 4 Tryz.f4 (.node 3 Tryz.f3 .nil .nil) (.node 5 Tryz.f5 .nil .nil)) (.node 8 Tryz.f8 (.node 7 Tryz.f7 .nil .nil) (.node 9 Tryz.f9 .nil .nil))) (.node 16 Tryz.f16 (.node 14 Tryz.f14 (.node 13 Tryz.f13 .nil .nil) (.node 15 Tryz.f15 .nil .nil)) (.node 18 Tryz.f18 (.node 17 Tryz.f17 .nil .nil) .nil))) (.node 26 Tryz.f26 (.node 23 Tryz.f23 (.node 21 Tryz.f21 (.node 20 Tryz.f20 .nil .nil) (.node 22 Tryz.f22 .nil .nil)) (.node 25 Tryz.f25 (.node 24 Tryz.f24 .nil .nil) .nil)) (.node 39 Tryz.f39 (.node 28 Tryz.f28 (.node 27 Tryz.f27 .nil .nil) (.node 38 Tryz.f38 .nil .nil)) (.node 41 Tryz.f41 (.node 40 Tryz.f40 .nil .nil) .nil)))) (.node 60 Tryz.f60 (.node 53 Tryz.f53 (.node 46 Tryz.f46 (.node 44 Tryz.f44 (.node 43 Tryz.f43 .nil .nil) (.node 45 Tryz.f45 .nil .nil)) (.node 52 Tryz.f52 (.node 47 Tryz.f47 .nil .nil) .nil)) (.node 57 Tryz.f57 (.node 55 Tryz.f55 (.node 54 Tryz.f54 .nil .nil) (.node 56 Tryz.f56 .nil .nil)) (.node 59 Tryz.f59 (.node 58 Tryz.f58 .nil .nil) .nil))) (.node 74 Tryz.f74 (.node 71 Tryz.f71 (.node 69 Tryz.f69 (.node 66 Tryz.f66 .nil .nil) (.node 70 Tryz.f70 .nil .nil)) (.node 73 Tryz.f73 (.node 72 Tryz.f72 .nil .nil) .nil)) (.node 83 Tryz.f83 (.node 76 Tryz.f76 (.node 75 Tryz.f75 .nil .nil) (.node 77 Tryz.f77 .nil .nil)) (.node 85 Tryz.f85 (.node 84 Tryz.f84 .nil .nil) .nil))))) (.node 115 Tryz.f115 (.node 101 Tryz.f101 (.node 93 Tryz.f93 (.node 90 Tryz.f90 (.node 88 Tryz.f88 (.node 87 Tryz.f87 .nil .nil) (.node 89 Tryz.f89 .nil .nil)) (.node 92 Tryz.f92 (.node 91 Tryz.f91 .nil .nil) .nil)) (.node 97 Tryz.f97 (.node 95 Tryz.f95 (.node 94 Tryz.f94 .nil .nil) (.node 96 Tryz.f96 .nil .nil)) (.node 100 Tryz.f100 (.node 98 Tryz.f98 .nil .nil) .nil))) (.node 108 Tryz.f108 (.node 105 Tryz.f105 (.node 103 Tryz.f103 (.node 102 Tryz.f102 .nil .nil) (.node 104 Tryz.f104 .nil .nil)) (.node 107 Tryz.f107 (.node 106 Tryz.f106 .nil .nil) .nil)) (.node 112 Tryz.f112 (.node 110 Tryz.f110 (.node 109 Tryz.f109 .nil .nil) (.node 111 Tryz.f111 .nil .nil)) (.node 114 Tryz.f114 (.node 113 Tryz.f113 .nil .nil) .nil)))) (.node 129 Tryz.f129 (.node 122 Tryz.f122 (.node 119 Tryz.f119 (.node 117 Tryz.f117 (.node 116 Tryz.f116 .nil .nil) (.node 118 Tryz.f118 .nil .nil)) (.node 121 Tryz.f121 (.node 120 Tryz.f120 .nil .nil) .nil)) (.node 126 Tryz.f126 (.node 124 Tryz.f124 (.node 123 Tryz.f123 .nil .nil) (.node 125 Tryz.f125 .nil .nil)) (.node 128 Tryz.f128 (.node 127 Tryz.f127 .nil .nil) .nil))) (.node 136 Tryz.f136 (.node 133 Tryz.f133 (.node 131 Tryz.f131 (.node 130 Tryz.f130 .nil .nil) (.node 132 Tryz.f132 .nil .nil)) (.node 135 Tryz.f135 (.node 134 Tryz.f134 .nil .nil) .nil)) (.node 140 Tryz.f140 (.node 138 Tryz.f138 (.node 137 Tryz.f137 .nil .nil) (.node 139 Tryz.f139 .nil .nil)) (.node 142 Tryz.f142 (.node 141 Tryz.f141 .nil .nil) .nil))))))
theorem fuB_ok : fuB.All fun i v => Tryz.prog.funcs[i]? = some v := ⟨Tryz.func86, ⟨Tryz.func42, ⟨Tryz.func19, ⟨Tryz.func12, ⟨Tryz.func6, ⟨Tryz.func4, ⟨Tryz.func3, trivial, trivial⟩, ⟨Tryz.func5, trivial, trivial⟩⟩, ⟨Tryz.func8, ⟨Tryz.func7, trivial, trivial⟩, ⟨Tryz.func9, trivial, trivial⟩⟩⟩, ⟨Tryz.func16, ⟨Tryz.func14, ⟨Tryz.func13, trivial, trivial⟩, ⟨Tryz.func15, trivial, trivial⟩⟩, ⟨Tryz.func18, ⟨Tryz.func17, trivial, trivial⟩, trivial⟩⟩⟩, ⟨Tryz.func26, ⟨Tryz.func23, ⟨Tryz.func21, ⟨Tryz.func20, trivial, trivial⟩, ⟨Tryz.func22, trivial, trivial⟩⟩, ⟨Tryz.func25, ⟨Tryz.func24, trivial, trivial⟩, trivial⟩⟩, ⟨Tryz.func39, ⟨Tryz.func28, ⟨Tryz.func27, trivial, trivial⟩, ⟨Tryz.func38, trivial, trivial⟩⟩, ⟨Tryz.func41, ⟨Tryz.func40, trivial, trivial⟩, trivial⟩⟩⟩⟩, ⟨Tryz.func60, ⟨Tryz.func53, ⟨Tryz.func46, ⟨Tryz.func44, ⟨Tryz.func43, trivial, trivial⟩, ⟨Tryz.func45, trivial, trivial⟩⟩, ⟨Tryz.func52, ⟨Tryz.func47, trivial, trivial⟩, trivial⟩⟩, ⟨Tryz.func57, ⟨Tryz.func55, ⟨Tryz.func54, trivial, trivial⟩, ⟨Tryz.func56, trivial, trivial⟩⟩, ⟨Tryz.func59, ⟨Tryz.func58, trivial, trivial⟩, trivial⟩⟩⟩, ⟨Tryz.func74, ⟨Tryz.func71, ⟨Tryz.func69, ⟨Tryz.func66, trivial, trivial⟩, ⟨Tryz.func70, trivial, trivial⟩⟩, ⟨Tryz.func73, ⟨Tryz.func72, trivial, trivial⟩, trivial⟩⟩, ⟨Tryz.func83, ⟨Tryz.func76, ⟨Tryz.func75, trivial, trivial⟩, ⟨Tryz.func77, trivial, trivial⟩⟩, ⟨Tryz.func85, ⟨Tryz.func84, trivial, trivial⟩, trivial⟩⟩⟩⟩⟩, ⟨Tryz.func115, ⟨Tryz.func101, ⟨Tryz.func93, ⟨Tryz.func90, ⟨Tryz.func88, ⟨Tryz.func87, trivial, trivial⟩, ⟨Tryz.func89, trivial, trivial⟩⟩, ⟨Tryz.func92, ⟨Tryz.func91, trivial, trivial⟩, trivial⟩⟩, ⟨Tryz.func97, ⟨Tryz.func95, ⟨Tryz.func94, trivial, trivial⟩, ⟨Tryz.func96, trivial, trivial⟩⟩, ⟨Tryz.func100, ⟨Tryz.func98, trivial, trivial⟩, trivial⟩⟩⟩, ⟨Tryz.func108, ⟨Tryz.func105, ⟨Tryz.func103, ⟨Tryz.func102, trivial, trivial⟩, ⟨Tryz.func104, trivial, trivial⟩⟩, ⟨Tryz.func107, ⟨Tryz.func106, trivial, trivial⟩, trivial⟩⟩, ⟨Tryz.func112, ⟨Tryz.func110, ⟨Tryz.func109, trivial, trivial⟩, ⟨Tryz.func111, trivial, trivial⟩⟩, ⟨Tryz.func114, ⟨Tryz.func113, trivial, trivial⟩, trivial⟩⟩⟩⟩, ⟨Tryz.func129, ⟨Tryz.func122, ⟨Tryz.func119, ⟨Tryz.func117, ⟨Tryz.func116, trivial, trivial⟩, ⟨Tryz.func118, trivial, trivial⟩⟩, ⟨Tryz.func121, ⟨Tryz.func120, trivial, trivial⟩, trivial⟩⟩, ⟨Tryz.func126, ⟨Tryz.func124, ⟨Tryz.func123, trivial, trivial⟩, ⟨Tryz.func125, trivial, trivial⟩⟩, ⟨Tryz.func128, ⟨Tryz.func127, trivial, trivial⟩, trivial⟩⟩⟩, ⟨Tryz.func136, ⟨Tryz.func133, ⟨Tryz.func131, ⟨Tryz.func130, trivial, trivial⟩, ⟨Tryz.func132, trivial, trivial⟩⟩, ⟨Tryz.func135, ⟨Tryz.func134, trivial, trivial⟩, trivial⟩⟩, ⟨Tryz.func140, ⟨Tryz.func138, ⟨Tryz.func137, trivial, trivial⟩, ⟨Tryz.func139, trivial, trivial⟩⟩, ⟨Tryz.func142, ⟨Tryz.func141, trivial, trivial⟩, trivial⟩⟩⟩⟩⟩⟩
def rt15 : BT (List Row) := (.node 6 [⟨0, 0⟩, ⟨0, 0⟩, ⟨3, 3⟩, ⟨4, 4⟩, ⟨0, 0⟩, ⟨0, 0⟩, ⟨48, 48⟩, ⟨64, 64⟩, ⟨136, 136⟩] .nil .nil)
theorem rw15 : RowAt Tryz.prog 15 rt15 := qJa Tryz.func15 (by kernel_rfl)
def rt17 : BT (List Row) := (.node 13 [⟨0, 0⟩, ⟨0, 0⟩, ⟨3, 3⟩, ⟨4, 4⟩, ⟨0, 0⟩, ⟨0, 0⟩, ⟨48, 48⟩, ⟨64, 64⟩, ⟨136, 136⟩, ⟨511, 3⟩, ⟨1023, 768⟩] .nil .nil)
theorem rw17 : RowAt Tryz.prog 17 rt17 := qJa Tryz.func17 (by kernel_rfl)
def rt18 : BT (List Row) := (.node 9 [⟨0, 0⟩, ⟨0, 0⟩, ⟨2, 2⟩, ⟨4, 4⟩, ⟨8, 8⟩, ⟨0, 0⟩, ⟨0, 0⟩, ⟨64, 64⟩, ⟨160, 160⟩, ⟨256, 256⟩, ⟨528, 528⟩, ⟨2047, 1⟩, ⟨4095, 2048⟩, ⟨6143, 5120⟩] .nil .nil)
theorem rw18 : RowAt Tryz.prog 18 rt18 := qJa Tryz.func18 (by kernel_rfl)
def rt22 : BT (List Row) := (.node 6 [⟨0, 0⟩, ⟨0, 0⟩, ⟨3, 3⟩, ⟨4, 4⟩, ⟨0, 0⟩, ⟨0, 0⟩, ⟨48, 48⟩, ⟨64, 64⟩, ⟨136, 136⟩] .nil .nil)
theorem rw22 : RowAt Tryz.prog 22 rt22 := qJa Tryz.func22 (by kernel_rfl)
def rt28 : BT (List Row) := (.node 11 [⟨0, 0⟩, ⟨0, 0⟩, ⟨3, 3⟩, ⟨4, 4⟩, ⟨0, 0⟩, ⟨0, 0⟩, ⟨32, 32⟩, ⟨80, 80⟩, ⟨128, 128⟩, ⟨264, 264⟩] (.node 6 [⟨0, 0⟩, ⟨0, 0⟩, ⟨3, 3⟩, ⟨4, 4⟩, ⟨0, 0⟩, ⟨0, 0⟩, ⟨32, 32⟩, ⟨80, 80⟩, ⟨128, 128⟩, ⟨264, 264⟩] .nil .nil) .nil)
theorem rw28 : RowAt Tryz.prog 28 rt28 := qJa Tryz.func28 (by kernel_rfl)
def rt39 : BT (List Row) := (.node 6 [⟨0, 0⟩, ⟨1, 1⟩, ⟨2, 2⟩, ⟨4, 4⟩, ⟨0, 0⟩, ⟨16, 16⟩, ⟨32, 32⟩, ⟨64, 64⟩, ⟨136, 136⟩, ⟨256, 256⟩, ⟨0, 0⟩, ⟨2047, 1536⟩] (.node 3 [⟨0, 0⟩, ⟨1, 1⟩, ⟨2, 2⟩, ⟨4, 4⟩, ⟨8, 8⟩, ⟨16, 16⟩, ⟨32, 32⟩, ⟨96, 96⟩, ⟨160, 160⟩, ⟨288, 288⟩, ⟨32, 32⟩, ⟨1056, 1056⟩, ⟨2080, 2080⟩, ⟨4128, 4128⟩, ⟨8224, 8224⟩, ⟨16928, 16928⟩, ⟨32800, 32800⟩] .nil .nil) .nil)
theorem rw39 : RowAt Tryz.prog 39 rt39 := qJa Tryz.func39 (by kernel_rfl)
def rt44 : BT (List Row) := (.node 8 [⟨0, 0⟩, ⟨0, 0⟩, ⟨2, 2⟩, ⟨4, 4⟩, ⟨8, 8⟩, ⟨16, 16⟩, ⟨32, 32⟩, ⟨0, 0⟩, ⟨128, 128⟩, ⟨256, 256⟩, ⟨512, 512⟩, ⟨1088, 1088⟩, ⟨0, 0⟩, ⟨4096, 4096⟩, ⟨10240, 10240⟩, ⟨16385, 16385⟩, ⟨65535, 32769⟩] .nil .nil)
theorem rw44 : RowAt Tryz.prog 44 rt44 := qJa Tryz.func44 (by kernel_rfl)
def rt46 : BT (List Row) := (.node 17 [⟨0, 0⟩, ⟨1, 1⟩, ⟨2, 2⟩, ⟨4, 4⟩, ⟨4, 4⟩, ⟨20, 20⟩, ⟨44, 44⟩, ⟨68, 68⟩, ⟨4, 4⟩, ⟨4, 4⟩, ⟨772, 772⟩, ⟨1028, 1028⟩, ⟨2180, 2180⟩, ⟨4100, 4100⟩, ⟨8196, 8196⟩] .nil .nil)
theorem rw46 : RowAt Tryz.prog 46 rt46 := qJa Tryz.func46 (by kernel_rfl)
def rt53 : BT (List Row) := (.node 4 [⟨0, 0⟩, ⟨1, 1⟩, ⟨0, 0⟩, ⟨0, 0⟩, ⟨0, 0⟩, ⟨16, 16⟩, ⟨8, 8⟩, ⟨64, 64⟩, ⟨160, 160⟩, ⟨256, 256⟩, ⟨518, 518⟩, ⟨1024, 1024⟩, ⟨2048, 2048⟩, ⟨2048, 2048⟩, ⟨8191, 4096⟩, ⟨32767, 8192⟩] (.node 1 [⟨0, 0⟩, ⟨0, 0⟩, ⟨2, 2⟩, ⟨1, 1⟩, ⟨8, 8⟩, ⟨20, 20⟩, ⟨32, 32⟩, ⟨127, 64⟩] .nil .nil) .nil)
theorem rw53 : RowAt Tryz.prog 53 rt53 := qJa Tryz.func53 (by kernel_rfl)
def rt60 : BT (List Row) := (.node 6 [⟨0, 0⟩, ⟨0, 0⟩, ⟨0, 0⟩, ⟨0, 0⟩, ⟨8, 8⟩, ⟨0, 0⟩, ⟨0, 0⟩, ⟨64, 64⟩, ⟨160, 160⟩, ⟨256, 256⟩, ⟨0, 0⟩, ⟨0, 0⟩, ⟨3072, 3072⟩, ⟨4096, 4096⟩, ⟨9187, 3⟩, ⟨25571, 16896⟩, ⟨65535, 20⟩, ⟨131071, 73728⟩] (.node 4 [⟨0, 0⟩, ⟨0, 0⟩, ⟨3, 3⟩, ⟨4, 4⟩, ⟨8, 8⟩, ⟨8, 8⟩, ⟨56, 56⟩, ⟨72, 72⟩, ⟨8, 8⟩, ⟨8, 8⟩, ⟨520, 520⟩, ⟨1288, 1288⟩, ⟨2056, 2056⟩, ⟨4232, 4232⟩, ⟨8200, 8200⟩] .nil .nil) .nil)
theorem rw60 : RowAt Tryz.prog 60 rt60 := qJa Tryz.func60 (by kernel_rfl)
def rt75 : BT (List Row) := (.node 9 [⟨0, 0⟩, ⟨1, 1⟩, ⟨2, 2⟩, ⟨4, 4⟩, ⟨0, 0⟩, ⟨0, 0⟩, ⟨0, 0⟩, ⟨64, 64⟩, ⟨32, 32⟩, ⟨256, 256⟩, ⟨640, 640⟩, ⟨1024, 1024⟩, ⟨2072, 2072⟩] (.node 1 [⟨0, 0⟩, ⟨0, 0⟩, ⟨2, 2⟩, ⟨1, 1⟩, ⟨8, 8⟩, ⟨20, 20⟩, ⟨32, 32⟩, ⟨0, 0⟩, ⟨128, 128⟩, ⟨256, 256⟩, ⟨576, 576⟩, ⟨2047, 1024⟩] .nil .nil) .nil)
theorem rw75 : RowAt Tryz.prog 75 rt75 := qJa Tryz.func75 (by kernel_rfl)
def rt76 : BT (List Row) := (.node 14 [⟨0, 0⟩, ⟨0, 0⟩, ⟨2, 2⟩, ⟨0, 0⟩, ⟨8, 8⟩, ⟨16, 16⟩, ⟨37, 37⟩] (.node 13 [⟨0, 0⟩, ⟨0, 0⟩, ⟨2, 2⟩, ⟨0, 0⟩, ⟨8, 8⟩, ⟨16, 16⟩, ⟨32, 32⟩, ⟨64, 64⟩, ⟨128, 128⟩, ⟨261, 261⟩] (.node 1 [⟨0, 0⟩, ⟨0, 0⟩, ⟨2, 2⟩, ⟨1, 1⟩, ⟨8, 8⟩, ⟨20, 20⟩, ⟨32, 32⟩, ⟨0, 0⟩, ⟨0, 0⟩, ⟨256, 256⟩, ⟨128, 128⟩, ⟨1024, 1024⟩, ⟨2560, 2560⟩, ⟨4096, 4096⟩, ⟨127, 64⟩, ⟨32767, 8192⟩] .nil .nil) .nil) (.node 16 [⟨0, 0⟩, ⟨0, 0⟩, ⟨2, 2⟩, ⟨4, 4⟩, ⟨8, 8⟩, ⟨0, 0⟩, ⟨32, 32⟩, ⟨64, 64⟩, ⟨145, 145⟩] .nil .nil))
theorem rw76 : RowAt Tryz.prog 76 rt76 := qJa Tryz.func76 (by kernel_rfl)
def rt94 : BT (List Row) := (.node 0 [⟨0, 0⟩, ⟨0, 0⟩, ⟨2, 2⟩, ⟨4, 4⟩, ⟨8, 8⟩, ⟨0, 0⟩, ⟨32, 32⟩, ⟨64, 64⟩, ⟨128, 128⟩, ⟨0, 0⟩, ⟨0, 0⟩, ⟨1792, 1792⟩, ⟨2048, 2048⟩, ⟨4112, 4112⟩, ⟨16383, 1⟩, ⟨32767, 16384⟩, ⟨49151, 40960⟩] .nil .nil)
theorem rw94 : RowAt Tryz.prog 94 rt94 := qJa Tryz.func94 (by kernel_rfl)
def rtB : RowT := (.node 44 rt44 (.node 22 rt22 (.node 17 rt17 (.node 15 rt15 .nil .nil) (.node 18 rt18 .nil .nil)) (.node 39 rt39 (.node 28 rt28 .nil .nil) .nil)) (.node 75 rt75 (.node 53 rt53 (.node 46 rt46 .nil .nil) (.node 60 rt60 .nil .nil)) (.node 94 rt94 (.node 76 rt76 .nil .nil) .nil)))
theorem rtB_ok : RtsOk Tryz.prog (rtsB rtB) := rtsB_ok ⟨rw44, ⟨rw22, ⟨rw17, ⟨rw15, trivial, trivial⟩, ⟨rw18, trivial, trivial⟩⟩, ⟨rw39, ⟨rw28, trivial, trivial⟩, trivial⟩⟩, ⟨rw75, ⟨rw53, ⟨rw46, trivial, trivial⟩, ⟨rw60, trivial, trivial⟩⟩, ⟨rw94, ⟨rw76, trivial, trivial⟩, trivial⟩⟩⟩

theorem own : ownKnob Tryz.prog.godebug = none := by kernel_rfl
theorem laidOut : laidOutB Tryz.prog = true := by kernel_rfl
theorem nogo : (Tryz.prog.funcs.all fun fn => fn.name != "runtime.NumGoroutine") = true := by kernel_rfl
theorem mixedOk : Tryz.prog.follows .mixedOrders = true := by kernel_rfl
/-- the types whose values are compared with no panic -/
noncomputable def seqB (t : TypeId) : Bool := !Tryz.prog.eqGuardType Tryz.prog.depth t && !Tryz.prog.stoodInHeld t
/-- the tables that the row lays, as rows that come in -/
def tabsL : List InD := [⟨[.int .i64], qQp [.c 1, .c 1, .c 1, .c 1, .c 1, .c 1, .c 1, .c 1, .c 1, .c 1, .c 1, .c 1, .c 1, .c 1, .c 1, .c 1, .c 1, .c 3, .c 3, .c 3, .c 3, .c 2, .c 2, .c 1, .c 1, .c 1, .c 1, .c 1, .c 1, .c 1, .c 1, .c 1, .c 1, .c 2, .c 2, .c 1, .c 1, .c 1, .c 3, .c 3, .c 3, .c 1, .c 1], .c 43, .c 43, some 0⟩]
/-- n: how deep a number may be without a name (0: none is named) -/
noncomputable def cxOf (n : Nat) : Cx :=
  { P := Tryz.prog, Γ := [], Φ := phiN, F := fN, lf := lfN, ins := [], tabs := tabsL, sh := n, und := undB tyB, inf := infB tyB, fn := fnB fuB, seq := seqB,
    undOk := undB_ok tyB_ok, infOk := fun _ _ h => BT.find_all tyB_ok h, fnOk := fun _ _ h => BT.find_all fuB_ok h,
    seqOk := fun t h => by unfold seqB at h; simpa using h }
theorem cxOf_ok (n : Nat) (m : Rc) : CxOk (m.cx (cxOf n)) :=
  ⟨mixedOk, fun f fn h => by
    have h1 := Array.all_eq_true.1 nogo
    obtain ⟨h2, h3⟩ := Array.getElem?_eq_some_iff.1 h
    have := h1 f h2
    have h4 : (Tryz.prog.funcs[f]'h2) = fn := h3
    rw [h4] at this
    simpa using this⟩
/-- the same, with what comes in -/
noncomputable def cxG (n : Nat) (Γ : List (Int × Int)) (ins : List InD) : Cx := { cxOf n with Γ := Γ, ins := ins ++ tabsL }
theorem tabsAll : (tabsL.all fun d => d.c.vb 0 && (d.n.vb 0 && d.cap.vb 0)) = true := by kernel_rfl
theorem tabsG (n : Nat) (Γ : List (Int × Int)) (ins : List InD) : TabsOk (cxG n Γ ins) := ⟨⟨ins, rfl⟩, fun d hd => by have := List.all_eq_true.1 tabsAll d hd; simp only [Bool.and_eq_true] at this; exact this⟩
theorem cxG_ok (n : Nat) (Γ : List (Int × Int)) (ins : List InD) : CxOk (cxG n Γ ins) :=
  ⟨mixedOk, fun f fn h => by
    have h1 := Array.all_eq_true.1 nogo
    obtain ⟨h2, h3⟩ := Array.getElem?_eq_some_iff.1 h
    have := h1 f h2
    have h4 : (Tryz.prog.funcs[f]'h2) = fn := h3
    rw [h4] at this
    simpa using this⟩
/-- a contract holds however much is named, and whatever else comes in -/
theorem rc_n {n k : Nat} {Γ : List (Int × Int)} {ins : List InD} {m : Rc} (h : RcOk (cxOf n) m) : RcOk (cxG k Γ ins) m :=
  fun ρ w hρ hc hp hr => h ρ w ⟨hρ.hi, hρ.hf, hρ.hv, hρ.hF, hρ.hP, hρ.hro⟩ hc hp hr
theorem rh_n {n k : Nat} {Γ : List (Int × Int)} {ins : List InD} {m : Rh} (h : RhOk (cxOf n) m) : RhOk (cxG k Γ ins) m :=
  fun ρ β w hρ hp hs => h ρ β w ⟨hρ.hi, hρ.hf, hρ.hv, hρ.hF, hρ.hP, hρ.hro⟩ hp hs
theorem mg {α : Type} {l : List α} {a : α} (i : Nat) (h : l[i]? = some a) : a ∈ l := List.mem_of_getElem? h
/-- the engine's runs -/
abbrev SMs := List (Int × Int) → List InD → Nat → SM
def SMsOk (sm : SMs) : Prop := ∀ Γ ins n, SmOk (cxG n Γ ins) (sm Γ ins n)
noncomputable def runC (sm : SMs) (Γ : List (Int × Int)) (ins : List InD) (n : Nat) : CF := execFn (cxG n Γ ins) (rtsB rtB) (sm Γ ins n) (fun _ _ => none) 40 30
theorem xok0 (cx : Cx) : XOk cx (fun _ _ => none) := fun _ _ _ _ _ _ _ h => by cases h
theorem runC_ok {sm : SMs} (h : SMsOk sm) (Γ : List (Int × Int)) (ins : List InD) (n : Nat) : qKi (cxG n Γ ins) (runC sm Γ ins n) := execFn_ok (cxG_ok n Γ ins) rtB_ok (h Γ ins n) (xok0 _) _
noncomputable def runG (sm : SMs) (lhs : LHS) (Γ : List (Int × Int)) (ins : List InD) (n : Nat) : CFT := execFnT (cxG n Γ ins) (rtsB rtB) (sm Γ ins n) (fun _ _ => none) lhs (runC sm Γ ins n) 40 30
theorem runG_ok {sm : SMs} (h : SMsOk sm) (lhs : LHS) (Γ : List (Int × Int)) (ins : List InD) (n : Nat) : qJv (cxG n Γ ins) (runG sm lhs Γ ins n) :=
  execFnT_ok (cxG_ok n Γ ins) rtB_ok (h Γ ins n) (xok0 _) (runC_ok h Γ ins n) _
noncomputable def runT (sm : SMs) (lhs : LHS) (m : Rc) (n : Nat) : CFT := runG sm lhs (bdsF m.ls) (qXg m.b m.c m.ls 0 0 0) n
theorem runT_ok {sm : SMs} (h : SMsOk sm) (lhs : LHS) (m : Rc) (n : Nat) : qJv (m.cx (cxOf n)) (runT sm lhs m n) := runG_ok h lhs _ _ n
noncomputable def runH (sm : SMs) (lhs : LHS) (m : Rk) (n : Nat) : CFT := runG sm lhs m.Γ m.ins n
theorem runH_ok {sm : SMs} (h : SMsOk sm) (lhs : LHS) (m : Rk) (n : Nat) : qJv (m.rh.cx (cxOf n)) (runH sm lhs m n) := runG_ok h lhs m.Γ m.ins n
/-! the parts of a contract's proof -/
noncomputable def fineR (n : Nat) (m : Rc) (t : TT (List E)) : Bool := TT.fine (m.cx (cxOf n)) 1000 [] t && (m.cx (cxOf n)).okB 1000 && SV.vbL 1000 m.args && TT.tidy (m.cx (cxOf n)) [] t
noncomputable def ranR (us : SMs) (lhs : LHS) (m : Rc) (n : Nat) (t : TT (List E)) : Bool := TT.beq (projL (m.pj (cxOf n)) (runT us lhs m n m.f m.args ⟨[], m.kn0⟩)) t
def statR (n : Nat) (m : Rc) (t : TT (List E)) (ρ : Env) : Prop := TT.hdP (m.cx (cxOf n)) (rlF ρ m.res) t ρ
theorem okR {us : SMs} {lhs : LHS} {m : Rc} {n : Nat} {t : TT (List E)} (hu : SMsOk us) (h1 : ranR us lhs m n t = true) (h2 : fineR n m t = true) (h3 : m.ok = true)
    (h : ∀ i v ro p, EnvOk (m.cx (cxOf n)) ⟨i, fN, v, ro, p⟩ → (∀ d ∈ qXg m.b m.c m.ls 0 0 0, d.n.ev ⟨i, fN, v, ro, p⟩ ≤ d.cap.ev ⟨i, fN, v, ro, p⟩) → (∀ e ∈ m.pre, e.evP ⟨i, fN, v, ro, p⟩ ≠ 0) → statR n m t ⟨i, fN, v, ro, p⟩) : RcOk (cxOf n) m :=
  rc_run (runT_ok hu lhs m n) h1 h2 h3 fun ρ hρ hcap hpre => by
    obtain ⟨i, f, v, ro, p⟩ := ρ
    have hf : f = fN := hρ.hF
    subst hf
    exact h i v ro p hρ hcap hpre
noncomputable def fineH (n : Nat) (m : Rk) (t : TT (List E)) : Bool := TT.fine (m.rh.cx (cxOf n)) 1000 [] t && (m.rh.cx (cxOf n)).okB 1000 && SV.vbL 1000 m.args && TT.tidy (m.rh.cx (cxOf n)) [] t
noncomputable def ranH (us : SMs) (lhs : LHS) (m : Rk) (n : Nat) (t : TT (List E)) : Bool := TT.beq (projL (m.pj (cxOf n)) (runH us lhs m n m.f m.args ⟨m.inb, m.kn0⟩)) t
def statH (n : Nat) (m : Rk) (t : TT (List E)) (ρ : Env) : Prop := TT.hdP (m.rh.cx (cxOf n)) (rsF ρ m.rs) t ρ
theorem okH {us : SMs} {lhs : LHS} {m : Rk} {n : Nat} {t : TT (List E)} (hu : SMsOk us) (h1 : ranH us lhs m n t = true) (h2 : fineH n m t = true) (h4 : blVb 1000 m.inb = true) (h3 : m.ok = true)
    (h : ∀ i v ro p, EnvOk (m.rh.cx (cxOf n)) ⟨i, fN, v, ro, p⟩ → (∀ e ∈ m.pre, e.evP ⟨i, fN, v, ro, p⟩ ≠ 0) → statH n m t ⟨i, fN, v, ro, p⟩) : RhOk (cxOf n) m.rh :=
  rk_run (runH_ok hu lhs m n) h1 h2 h4 h3 fun ρ hρ hpre => by
    obtain ⟨i, f, v, ro, p⟩ := ρ
    have hf : f = fN := hρ.hF
    subst hf
    exact h i v ro p hρ hpre
theorem den_row (ρ : Env) (β : Bt) (k z i j : Nat) : (SV.sl (.inp k) z (.c 0) (.v i) (some (.v j))).den ρ β = .slice (ρ.ro k).a (ρ.i i).toNat (ρ.i j).toNat := by
  simp only [SV.den, E.ev, qKx]
end Go.Proofs.YthfckifhnaoopabGreatDoor
