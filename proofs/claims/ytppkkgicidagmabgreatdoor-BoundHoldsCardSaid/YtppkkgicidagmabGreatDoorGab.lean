/-
  The program's tables of types, of functions and of all regions that draw their order, as trees; the engine at this program. Printed by program.
-/
import Derived.Test.YtppkkgicidagmabGreatDoorGu5
import Derived.Test.YtppkkgicidagmabGreatDoorRows
import Derived.WalkKit
import Derived.ProofKit
set_option linter.unusedVariables false
set_option linter.unusedSimpArgs false
namespace Go.Proofs.YtppkkgicidagmabGreatDoor
open Go Go.Eng Go.RowKit
set_option maxRecDepth 100000
noncomputable def tyB : BT TypeInfo := (.node 51 Tryz.t51 (.node 28 Tryz.t28 (.node 9 Tryz.t9 (.node 4 Tryz.t4 (.node 3 Tryz.t3 (.node 2 Tryz.t2 .nil .nil) .nil) (.node 5 Tryz.t5 .nil .nil)) (.node 23 Tryz.t23 (.node 22 Tryz.t22 (.node 21 Tryz.t21 .nil .nil) .nil) (.node 25 Tryz.t25 .nil .nil))) (.node 44 Tryz.t44 (.node 42 Tryz.t42 (.node 39 Tryz.t39 (.node 34 Tryz.t34 .nil .nil) .nil) (.node 43 Tryz.t43 .nil .nil)) (.node 47 Tryz.t47 (.node 46 Tryz.t46 (.node 45 Tryz.t45 .nil .nil) .nil) (.node 48 Tryz.t48 .nil .nil)))) (.node 91 Tryz.t91 (.node 72 Tryz.t72 (.node 69 Tryz.t69 (.node 68 Tryz.t68 (.node 52 Tryz.t52 .nil .nil) .nil) (.node 70 Tryz.t70 .nil .nil)) (.node 76 Tryz.t76 (.node 75 Tryz.t75 (.node 74 Tryz.t74 .nil .nil) .nil) (.node 77 Tryz.t77 .nil .nil))) (.node 124 Tryz.t124 (.node 116 Tryz.t116 (.node 101 Tryz.t101 (.node 93 Tryz.t93 .nil .nil) .nil) (.node 123 Tryz.t123 .nil .nil)) (.node 133 Tryz.t133 (.node 132 Tryz.t132 (.node 131 Tryz.t131 .nil .nil) .nil) (.node 134 Tryz.t134 .nil .nil)))))
theorem tyB_ok : tyB.All fun i v => Tryz.prog.info? i = some v := ⟨Tryz.type51, ⟨Tryz.type28, ⟨Tryz.type9, ⟨Tryz.type4, ⟨Tryz.type3, ⟨Tryz.type2, trivial, trivial⟩, trivial⟩, ⟨Tryz.type5, trivial, trivial⟩⟩, ⟨Tryz.type23, ⟨Tryz.type22, ⟨Tryz.type21, trivial, trivial⟩, trivial⟩, ⟨Tryz.type25, trivial, trivial⟩⟩⟩, ⟨Tryz.type44, ⟨Tryz.type42, ⟨Tryz.type39, ⟨Tryz.type34, trivial, trivial⟩, trivial⟩, ⟨Tryz.type43, trivial, trivial⟩⟩, ⟨Tryz.type47, ⟨Tryz.type46, ⟨Tryz.type45, trivial, trivial⟩, trivial⟩, ⟨Tryz.type48, trivial, trivial⟩⟩⟩⟩, ⟨Tryz.type91, ⟨Tryz.type72, ⟨Tryz.type69, ⟨Tryz.type68, ⟨Tryz.type52, trivial, trivial⟩, trivial⟩, ⟨Tryz.type70, trivial, trivial⟩⟩, ⟨Tryz.type76, ⟨Tryz.type75, ⟨Tryz.type74, trivial, trivial⟩, trivial⟩, ⟨Tryz.type77, trivial, trivial⟩⟩⟩, ⟨Tryz.type124, ⟨Tryz.type116, ⟨Tryz.type101, ⟨Tryz.type93, trivial, trivial⟩, trivial⟩, ⟨Tryz.type123, trivial, trivial⟩⟩, ⟨Tryz.type133, ⟨Tryz.type132, ⟨Tryz.type131, trivial, trivial⟩, trivial⟩, ⟨Tryz.type134, trivial, trivial⟩⟩⟩⟩⟩
noncomputable def fuB : BT Func := (.node 71 Tryz.f71 (.node 42 Tryz.f42 (.node 22 Tryz.f22 (.node 9 Tryz.f9 (.node 6 Tryz.f6 (.node 4 Tryz.f4 (.node 3 Tryz.f3 .nil .nil) (.node 5 Tryz.f5 .nil .nil)) (.node 8 Tryz.f8 (.node 7 Tryz.f7 .nil .nil) .nil)) (.node 15 Tryz.f15 (.node 14 Tryz.f14 (.node 10 Tryz.f10 .nil .nil) .nil) (.node 17 Tryz.f17 (.node 16 Tryz.f16 .nil .nil) .nil))) (.node 36 Tryz.f36 (.node 28 Tryz.f28 (.node 26 Tryz.f26 (.node 25 Tryz.f25 .nil .nil) (.node 27 Tryz.f27 .nil .nil)) (.node 35 Tryz.f35 (.node 29 Tryz.f29 .nil .nil) .nil)) (.node 39 Tryz.f39 (.node 38 Tryz.f38 (.node 37 Tryz.f37 .nil .nil) .nil) (.node 41 Tryz.f41 (.node 40 Tryz.f40 .nil .nil) .nil)))) (.node 58 Tryz.f58 (.node 52 Tryz.f52 (.node 46 Tryz.f46 (.node 44 Tryz.f44 (.node 43 Tryz.f43 .nil .nil) (.node 45 Tryz.f45 .nil .nil)) (.node 51 Tryz.f51 (.node 50 Tryz.f50 .nil .nil) .nil)) (.node 55 Tryz.f55 (.node 54 Tryz.f54 (.node 53 Tryz.f53 .nil .nil) .nil) (.node 57 Tryz.f57 (.node 56 Tryz.f56 .nil .nil) .nil))) (.node 65 Tryz.f65 (.node 62 Tryz.f62 (.node 60 Tryz.f60 (.node 59 Tryz.f59 .nil .nil) (.node 61 Tryz.f61 .nil .nil)) (.node 64 Tryz.f64 (.node 63 Tryz.f63 .nil .nil) .nil)) (.node 68 Tryz.f68 (.node 67 Tryz.f67 (.node 66 Tryz.f66 .nil .nil) .nil) (.node 70 Tryz.f70 (.node 69 Tryz.f69 .nil .nil) .nil))))) (.node 97 Tryz.f97 (.node 84 Tryz.f84 (.node 78 Tryz.f78 (.node 75 Tryz.f75 (.node 73 Tryz.f73 (.node 72 Tryz.f72 .nil .nil) (.node 74 Tryz.f74 .nil .nil)) (.node 77 Tryz.f77 (.node 76 Tryz.f76 .nil .nil) .nil)) (.node 81 Tryz.f81 (.node 80 Tryz.f80 (.node 79 Tryz.f79 .nil .nil) .nil) (.node 83 Tryz.f83 (.node 82 Tryz.f82 .nil .nil) .nil))) (.node 91 Tryz.f91 (.node 88 Tryz.f88 (.node 86 Tryz.f86 (.node 85 Tryz.f85 .nil .nil) (.node 87 Tryz.f87 .nil .nil)) (.node 90 Tryz.f90 (.node 89 Tryz.f89 .nil .nil) .nil)) (.node 94 Tryz.f94 (.node 93 Tryz.f93 (.node 92 Tryz.f92 .nil .nil) .nil) (.node 96 Tryz.f96 (.node 95 Tryz.f95 .nil .nil) .nil)))) (.node 117 Tryz.f117 (.node 104 Tryz.f104 (.node 101 Tryz.f101 (.node 99 Tryz.f99 (.node 98 Tryz.f98 .nil .nil) (.node 100 Tryz.f100 .nil .nil)) (.node 103 Tryz.f103 (.node 102 Tryz.f102 .nil .nil) .nil)) (.node 107 Tryz.f107 (.node 106 Tryz.f106 (.node 105 Tryz.f105 .nil .nil) .nil) (.node 116 Tryz.f116 (.node 113 Tryz.f113 .nil .nil) .nil))) (.node 123 Tryz.f123 (.node 120 Tryz.f120 (.node 119 Tryz.f119 (.node 118 Tryz.f118 .nil .nil) .nil) (.node 122 Tryz.f122 (.node 121 Tryz.f121 .nil .nil) .nil)) (.node 131 Tryz.f131 (.node 125 Tryz.f125 (.node 124 Tryz.f124 .nil .nil) .nil) (.node 133 Tryz.f133 (.node 132 Tryz.f132 .nil .nil) .nil))))))
theorem fuB_ok : fuB.All fun i v => Tryz.prog.funcs[i]? = some v := ⟨Tryz.func71, ⟨Tryz.func42, ⟨Tryz.func22, ⟨Tryz.func9, ⟨Tryz.func6, ⟨Tryz.func4, ⟨Tryz.func3, trivial, trivial⟩, ⟨Tryz.func5, trivial, trivial⟩⟩, ⟨Tryz.func8, ⟨Tryz.func7, trivial, trivial⟩, trivial⟩⟩, ⟨Tryz.func15, ⟨Tryz.func14, ⟨Tryz.func10, trivial, trivial⟩, trivial⟩, ⟨Tryz.func17, ⟨Tryz.func16, trivial, trivial⟩, trivial⟩⟩⟩, ⟨Tryz.func36, ⟨Tryz.func28, ⟨Tryz.func26, ⟨Tryz.func25, trivial, trivial⟩, ⟨Tryz.func27, trivial, trivial⟩⟩, ⟨Tryz.func35, ⟨Tryz.func29, trivial, trivial⟩, trivial⟩⟩, ⟨Tryz.func39, ⟨Tryz.func38, ⟨Tryz.func37, trivial, trivial⟩, trivial⟩, ⟨Tryz.func41, ⟨Tryz.func40, trivial, trivial⟩, trivial⟩⟩⟩⟩, ⟨Tryz.func58, ⟨Tryz.func52, ⟨Tryz.func46, ⟨Tryz.func44, ⟨Tryz.func43, trivial, trivial⟩, ⟨Tryz.func45, trivial, trivial⟩⟩, ⟨Tryz.func51, ⟨Tryz.func50, trivial, trivial⟩, trivial⟩⟩, ⟨Tryz.func55, ⟨Tryz.func54, ⟨Tryz.func53, trivial, trivial⟩, trivial⟩, ⟨Tryz.func57, ⟨Tryz.func56, trivial, trivial⟩, trivial⟩⟩⟩, ⟨Tryz.func65, ⟨Tryz.func62, ⟨Tryz.func60, ⟨Tryz.func59, trivial, trivial⟩, ⟨Tryz.func61, trivial, trivial⟩⟩, ⟨Tryz.func64, ⟨Tryz.func63, trivial, trivial⟩, trivial⟩⟩, ⟨Tryz.func68, ⟨Tryz.func67, ⟨Tryz.func66, trivial, trivial⟩, trivial⟩, ⟨Tryz.func70, ⟨Tryz.func69, trivial, trivial⟩, trivial⟩⟩⟩⟩⟩, ⟨Tryz.func97, ⟨Tryz.func84, ⟨Tryz.func78, ⟨Tryz.func75, ⟨Tryz.func73, ⟨Tryz.func72, trivial, trivial⟩, ⟨Tryz.func74, trivial, trivial⟩⟩, ⟨Tryz.func77, ⟨Tryz.func76, trivial, trivial⟩, trivial⟩⟩, ⟨Tryz.func81, ⟨Tryz.func80, ⟨Tryz.func79, trivial, trivial⟩, trivial⟩, ⟨Tryz.func83, ⟨Tryz.func82, trivial, trivial⟩, trivial⟩⟩⟩, ⟨Tryz.func91, ⟨Tryz.func88, ⟨Tryz.func86, ⟨Tryz.func85, trivial, trivial⟩, ⟨Tryz.func87, trivial, trivial⟩⟩, ⟨Tryz.func90, ⟨Tryz.func89, trivial, trivial⟩, trivial⟩⟩, ⟨Tryz.func94, ⟨Tryz.func93, ⟨Tryz.func92, trivial, trivial⟩, trivial⟩, ⟨Tryz.func96, ⟨Tryz.func95, trivial, trivial⟩, trivial⟩⟩⟩⟩, ⟨Tryz.func117, ⟨Tryz.func104, ⟨Tryz.func101, ⟨Tryz.func99, ⟨Tryz.func98, trivial, trivial⟩, ⟨Tryz.func100, trivial, trivial⟩⟩, ⟨Tryz.func103, ⟨Tryz.func102, trivial, trivial⟩, trivial⟩⟩, ⟨Tryz.func107, ⟨Tryz.func106, ⟨Tryz.func105, trivial, trivial⟩, trivial⟩, ⟨Tryz.func116, ⟨Tryz.func113, trivial, trivial⟩, trivial⟩⟩⟩, ⟨Tryz.func123, ⟨Tryz.func120, ⟨Tryz.func119, ⟨Tryz.func118, trivial, trivial⟩, trivial⟩, ⟨Tryz.func122, ⟨Tryz.func121, trivial, trivial⟩, trivial⟩⟩, ⟨Tryz.func131, ⟨Tryz.func125, ⟨Tryz.func124, trivial, trivial⟩, trivial⟩, ⟨Tryz.func133, ⟨Tryz.func132, trivial, trivial⟩, trivial⟩⟩⟩⟩⟩⟩
def rt7 : BT (List Row) := (.node 9 [⟨0, 0⟩, ⟨0, 0⟩, ⟨2, 2⟩, ⟨4, 4⟩, ⟨8, 8⟩, ⟨0, 0⟩, ⟨0, 0⟩, ⟨64, 64⟩, ⟨160, 160⟩, ⟨256, 256⟩, ⟨528, 528⟩, ⟨2047, 1⟩, ⟨4095, 2048⟩, ⟨6143, 5120⟩] .nil .nil)
theorem rw7 : RowAt Tryz.prog 7 rt7 := qXe Tryz.func7 (by kernel_rfl)
def rt16 : BT (List Row) := (.node 6 [⟨0, 0⟩, ⟨1, 1⟩, ⟨2, 2⟩, ⟨4, 4⟩, ⟨0, 0⟩, ⟨16, 16⟩, ⟨32, 32⟩, ⟨64, 64⟩, ⟨136, 136⟩, ⟨256, 256⟩, ⟨0, 0⟩, ⟨2047, 1536⟩] (.node 3 [⟨0, 0⟩, ⟨1, 1⟩, ⟨2, 2⟩, ⟨4, 4⟩, ⟨8, 8⟩, ⟨16, 16⟩, ⟨32, 32⟩, ⟨96, 96⟩, ⟨160, 160⟩, ⟨288, 288⟩, ⟨32, 32⟩, ⟨1056, 1056⟩, ⟨2080, 2080⟩, ⟨4128, 4128⟩, ⟨8224, 8224⟩, ⟨16928, 16928⟩, ⟨32800, 32800⟩] .nil .nil) .nil)
theorem rw16 : RowAt Tryz.prog 16 rt16 := qXe Tryz.func16 (by kernel_rfl)
def rt28 : BT (List Row) := (.node 8 [⟨0, 0⟩, ⟨0, 0⟩, ⟨2, 2⟩, ⟨4, 4⟩, ⟨8, 8⟩, ⟨16, 16⟩, ⟨32, 32⟩, ⟨0, 0⟩, ⟨128, 128⟩, ⟨256, 256⟩, ⟨512, 512⟩, ⟨1088, 1088⟩, ⟨0, 0⟩, ⟨4096, 4096⟩, ⟨10240, 10240⟩, ⟨16385, 16385⟩, ⟨65535, 32769⟩] .nil .nil)
theorem rw28 : RowAt Tryz.prog 28 rt28 := qXe Tryz.func28 (by kernel_rfl)
def rt29 : BT (List Row) := (.node 4 [⟨0, 0⟩, ⟨1, 1⟩, ⟨0, 0⟩, ⟨0, 0⟩, ⟨0, 0⟩, ⟨16, 16⟩, ⟨8, 8⟩, ⟨64, 64⟩, ⟨160, 160⟩, ⟨256, 256⟩, ⟨518, 518⟩, ⟨1024, 1024⟩, ⟨2048, 2048⟩, ⟨2048, 2048⟩, ⟨8191, 4096⟩, ⟨32767, 8192⟩] (.node 1 [⟨0, 0⟩, ⟨0, 0⟩, ⟨2, 2⟩, ⟨1, 1⟩, ⟨8, 8⟩, ⟨20, 20⟩, ⟨32, 32⟩, ⟨127, 64⟩] .nil .nil) .nil)
theorem rw29 : RowAt Tryz.prog 29 rt29 := qXe Tryz.func29 (by kernel_rfl)
def rt45 : BT (List Row) := (.node 9 [⟨0, 0⟩, ⟨1, 1⟩, ⟨2, 2⟩, ⟨4, 4⟩, ⟨0, 0⟩, ⟨0, 0⟩, ⟨0, 0⟩, ⟨64, 64⟩, ⟨32, 32⟩, ⟨256, 256⟩, ⟨640, 640⟩, ⟨1024, 1024⟩, ⟨2072, 2072⟩] (.node 1 [⟨0, 0⟩, ⟨0, 0⟩, ⟨2, 2⟩, ⟨1, 1⟩, ⟨8, 8⟩, ⟨20, 20⟩, ⟨32, 32⟩, ⟨0, 0⟩, ⟨128, 128⟩, ⟨256, 256⟩, ⟨576, 576⟩, ⟨2047, 1024⟩] .nil .nil) .nil)
theorem rw45 : RowAt Tryz.prog 45 rt45 := qXe Tryz.func45 (by kernel_rfl)
def rt46 : BT (List Row) := (.node 14 [⟨0, 0⟩, ⟨0, 0⟩, ⟨2, 2⟩, ⟨0, 0⟩, ⟨8, 8⟩, ⟨16, 16⟩, ⟨37, 37⟩] (.node 13 [⟨0, 0⟩, ⟨0, 0⟩, ⟨2, 2⟩, ⟨0, 0⟩, ⟨8, 8⟩, ⟨16, 16⟩, ⟨32, 32⟩, ⟨64, 64⟩, ⟨128, 128⟩, ⟨261, 261⟩] (.node 1 [⟨0, 0⟩, ⟨0, 0⟩, ⟨2, 2⟩, ⟨1, 1⟩, ⟨8, 8⟩, ⟨20, 20⟩, ⟨32, 32⟩, ⟨0, 0⟩, ⟨0, 0⟩, ⟨256, 256⟩, ⟨128, 128⟩, ⟨1024, 1024⟩, ⟨2560, 2560⟩, ⟨4096, 4096⟩, ⟨127, 64⟩, ⟨32767, 8192⟩] .nil .nil) .nil) (.node 16 [⟨0, 0⟩, ⟨0, 0⟩, ⟨2, 2⟩, ⟨4, 4⟩, ⟨8, 8⟩, ⟨0, 0⟩, ⟨32, 32⟩, ⟨64, 64⟩, ⟨145, 145⟩] .nil .nil))
theorem rw46 : RowAt Tryz.prog 46 rt46 := qXe Tryz.func46 (by kernel_rfl)
def rt62 : BT (List Row) := (.node 0 [⟨0, 0⟩, ⟨0, 0⟩, ⟨2, 2⟩, ⟨4, 4⟩, ⟨8, 8⟩, ⟨0, 0⟩, ⟨32, 32⟩, ⟨64, 64⟩, ⟨128, 128⟩, ⟨0, 0⟩, ⟨0, 0⟩, ⟨1792, 1792⟩, ⟨2048, 2048⟩, ⟨4112, 4112⟩, ⟨16383, 1⟩, ⟨32767, 16384⟩, ⟨49151, 40960⟩] .nil .nil)
theorem rw62 : RowAt Tryz.prog 62 rt62 := qXe Tryz.func62 (by kernel_rfl)
def rt71 : BT (List Row) := (.node 11 [⟨0, 0⟩, ⟨0, 0⟩, ⟨3, 3⟩, ⟨4, 4⟩, ⟨0, 0⟩, ⟨0, 0⟩, ⟨32, 32⟩, ⟨80, 80⟩, ⟨128, 128⟩, ⟨264, 264⟩] (.node 6 [⟨0, 0⟩, ⟨0, 0⟩, ⟨3, 3⟩, ⟨4, 4⟩, ⟨0, 0⟩, ⟨0, 0⟩, ⟨32, 32⟩, ⟨80, 80⟩, ⟨128, 128⟩, ⟨264, 264⟩] .nil .nil) .nil)
theorem rw71 : RowAt Tryz.prog 71 rt71 := qXe Tryz.func71 (by kernel_rfl)
def rt90 : BT (List Row) := (.node 17 [⟨0, 0⟩, ⟨1, 1⟩, ⟨2, 2⟩, ⟨4, 4⟩, ⟨4, 4⟩, ⟨20, 20⟩, ⟨44, 44⟩, ⟨68, 68⟩, ⟨4, 4⟩, ⟨4, 4⟩, ⟨772, 772⟩, ⟨1028, 1028⟩, ⟨2180, 2180⟩, ⟨4100, 4100⟩, ⟨8196, 8196⟩] .nil .nil)
theorem rw90 : RowAt Tryz.prog 90 rt90 := qXe Tryz.func90 (by kernel_rfl)
def rt107 : BT (List Row) := (.node 6 [⟨0, 0⟩, ⟨0, 0⟩, ⟨0, 0⟩, ⟨0, 0⟩, ⟨8, 8⟩, ⟨0, 0⟩, ⟨0, 0⟩, ⟨64, 64⟩, ⟨160, 160⟩, ⟨256, 256⟩, ⟨0, 0⟩, ⟨0, 0⟩, ⟨3072, 3072⟩, ⟨4096, 4096⟩, ⟨9187, 3⟩, ⟨25571, 16896⟩, ⟨65535, 20⟩, ⟨131071, 73728⟩] (.node 4 [⟨0, 0⟩, ⟨0, 0⟩, ⟨3, 3⟩, ⟨4, 4⟩, ⟨8, 8⟩, ⟨8, 8⟩, ⟨56, 56⟩, ⟨72, 72⟩, ⟨8, 8⟩, ⟨8, 8⟩, ⟨520, 520⟩, ⟨1288, 1288⟩, ⟨2056, 2056⟩, ⟨4232, 4232⟩, ⟨8200, 8200⟩] .nil .nil) .nil)
theorem rw107 : RowAt Tryz.prog 107 rt107 := qXe Tryz.func107 (by kernel_rfl)
def rtB : RowT := (.node 46 rt46 (.node 28 rt28 (.node 16 rt16 (.node 7 rt7 .nil .nil) .nil) (.node 45 rt45 (.node 29 rt29 .nil .nil) .nil)) (.node 90 rt90 (.node 71 rt71 (.node 62 rt62 .nil .nil) .nil) (.node 107 rt107 .nil .nil)))
theorem rtB_ok : RtsOk Tryz.prog (rtsB rtB) := rtsB_ok ⟨rw46, ⟨rw28, ⟨rw16, ⟨rw7, trivial, trivial⟩, trivial⟩, ⟨rw45, ⟨rw29, trivial, trivial⟩, trivial⟩⟩, ⟨rw90, ⟨rw71, ⟨rw62, trivial, trivial⟩, trivial⟩, ⟨rw107, trivial, trivial⟩⟩⟩

theorem own : ownKnob Tryz.prog.godebug = none := by kernel_rfl
theorem laidOut : laidOutB Tryz.prog = true := by kernel_rfl
theorem nogo : (Tryz.prog.funcs.all fun fn => fn.name != "runtime.NumGoroutine") = true := by kernel_rfl
theorem mixedOk : Tryz.prog.follows .mixedOrders = true := by kernel_rfl
/-- the types whose values are compared with no panic -/
noncomputable def seqB (t : TypeId) : Bool := !Tryz.prog.eqGuardType Tryz.prog.depth t && !Tryz.prog.stoodInHeld t
/-- the tables that the row lays, as rows that come in -/
def tabsL : List InD := [⟨[.int .i64], qQr [.c 1, .c 1, .c 1, .c 1, .c 1, .c 1, .c 1, .c 1, .c 1, .c 1, .c 1, .c 1, .c 1, .c 1, .c 1, .c 1, .c 1, .c 3, .c 3, .c 3, .c 3, .c 2, .c 2, .c 1, .c 1, .c 1, .c 1, .c 1, .c 1, .c 1, .c 1, .c 1, .c 1, .c 2, .c 2, .c 1, .c 1, .c 1, .c 3, .c 3, .c 3, .c 1, .c 1], .c 43, .c 43, some 0⟩]
/-- n: how deep a number may be without a name (0: none is named) -/
noncomputable def cxOf (n : Nat) : Cx :=
  { P := Tryz.prog, Γ := [], Φ := phiN, F := fN, lf := lfN, ins := [], tabs := tabsL, sh := n, und := undB tyB, inf := infB tyB, fn := fnB fuB, seq := seqB,
    undOk := undB_ok tyB_ok, infOk := fun _ _ h => BT.find_all tyB_ok h, fnOk := fun _ _ h => BT.find_all fuB_ok h,
    seqOk := fun t h => by unfold seqB at h; simpa using h }
theorem cxOf_ok (n : Nat) (m : Rc) : CxOk (m.cx (cxOf n)) :=
  ⟨mixedOk, fun f fn h => by
    have h1 := Array.all_eq_true.1 nogo
    obtain ⟨h2, h3⟩ := Array.getElem?_eq_some_iff.1 h
    have := h1 f h2
    have h4 : (Tryz.prog.funcs[f]'h2) = fn := h3
    rw [h4] at this
    simpa using this⟩
/-- the same, with what comes in -/
noncomputable def cxG (n : Nat) (Γ : List (Int × Int)) (ins : List InD) : Cx := { cxOf n with Γ := Γ, ins := ins ++ tabsL }
theorem tabsAll : (tabsL.all fun d => d.c.vb 0 && (d.n.vb 0 && d.cap.vb 0)) = true := by kernel_rfl
theorem tabsG (n : Nat) (Γ : List (Int × Int)) (ins : List InD) : qKd (cxG n Γ ins) := ⟨⟨ins, rfl⟩, fun d hd => by have := List.all_eq_true.1 tabsAll d hd; simp only [Bool.and_eq_true] at this; exact this⟩
theorem cxG_ok (n : Nat) (Γ : List (Int × Int)) (ins : List InD) : CxOk (cxG n Γ ins) :=
  ⟨mixedOk, fun f fn h => by
    have h1 := Array.all_eq_true.1 nogo
    obtain ⟨h2, h3⟩ := Array.getElem?_eq_some_iff.1 h
    have := h1 f h2
    have h4 : (Tryz.prog.funcs[f]'h2) = fn := h3
    rw [h4] at this
    simpa using this⟩
/-- a contract holds however much is named, and whatever else comes in -/
theorem rc_n {n k : Nat} {Γ : List (Int × Int)} {ins : List InD} {m : Rc} (h : RcOk (cxOf n) m) : RcOk (cxG k Γ ins) m :=
  fun ρ w hρ hc hp hr => h ρ w ⟨hρ.hi, hρ.hf, hρ.hv, hρ.hF, hρ.hP, hρ.hro⟩ hc hp hr
theorem rh_n {n k : Nat} {Γ : List (Int × Int)} {ins : List InD} {m : Rh} (h : RhOk (cxOf n) m) : RhOk (cxG k Γ ins) m :=
  fun ρ β w hρ hp hs => h ρ β w ⟨hρ.hi, hρ.hf, hρ.hv, hρ.hF, hρ.hP, hρ.hro⟩ hp hs
theorem mg {α : Type} {l : List α} {a : α} (i : Nat) (h : l[i]? = some a) : a ∈ l := List.mem_of_getElem? h
/-- the engine's runs -/
abbrev SMs := List (Int × Int) → List InD → Nat → SM
def SMsOk (sm : SMs) : Prop := ∀ Γ ins n, SmOk (cxG n Γ ins) (sm Γ ins n)
noncomputable def runC (sm : SMs) (Γ : List (Int × Int)) (ins : List InD) (n : Nat) : CF := execFn (cxG n Γ ins) (rtsB rtB) (sm Γ ins n) (fun _ _ => none) 40 30
theorem xok0 (cx : Cx) : XOk cx (fun _ _ => none) := fun _ _ _ _ _ _ _ h => by cases h
theorem runC_ok {sm : SMs} (h : SMsOk sm) (Γ : List (Int × Int)) (ins : List InD) (n : Nat) : qKe (cxG n Γ ins) (runC sm Γ ins n) := execFn_ok (cxG_ok n Γ ins) rtB_ok (h Γ ins n) (xok0 _) _
noncomputable def runG (sm : SMs) (lhs : LHS) (Γ : List (Int × Int)) (ins : List InD) (n : Nat) : CFT := execFnT (cxG n Γ ins) (rtsB rtB) (sm Γ ins n) (fun _ _ => none) lhs (runC sm Γ ins n) 40 30
theorem runG_ok {sm : SMs} (h : SMsOk sm) (lhs : LHS) (Γ : List (Int × Int)) (ins : List InD) (n : Nat) : qJk (cxG n Γ ins) (runG sm lhs Γ ins n) :=
  execFnT_ok (cxG_ok n Γ ins) rtB_ok (h Γ ins n) (xok0 _) (runC_ok h Γ ins n) _
noncomputable def runT (sm : SMs) (lhs : LHS) (m : Rc) (n : Nat) : CFT := runG sm lhs (bdsF m.ls) (qXa m.b m.c m.ls 0 0 0) n
theorem runT_ok {sm : SMs} (h : SMsOk sm) (lhs : LHS) (m : Rc) (n : Nat) : qJk (m.cx (cxOf n)) (runT sm lhs m n) := runG_ok h lhs _ _ n
noncomputable def runH (sm : SMs) (lhs : LHS) (m : Rk) (n : Nat) : CFT := runG sm lhs m.Γ m.ins n
theorem runH_ok {sm : SMs} (h : SMsOk sm) (lhs : LHS) (m : Rk) (n : Nat) : qJk (m.rh.cx (cxOf n)) (runH sm lhs m n) := runG_ok h lhs m.Γ m.ins n
/-! the parts of a contract's proof -/
noncomputable def fineR (n : Nat) (m : Rc) (t : TT (List E)) : Bool := TT.fine (m.cx (cxOf n)) 1000 [] t && (m.cx (cxOf n)).okB 1000 && SV.vbL 1000 m.args && TT.tidy (m.cx (cxOf n)) [] t
noncomputable def ranR (us : SMs) (lhs : LHS) (m : Rc) (n : Nat) (t : TT (List E)) : Bool := TT.beq (projL (m.pj (cxOf n)) (runT us lhs m n m.f m.args ⟨[], m.kn0⟩)) t
def statR (n : Nat) (m : Rc) (t : TT (List E)) (ρ : Env) : Prop := TT.hdP (m.cx (cxOf n)) (rlF ρ m.res) t ρ
theorem okR {us : SMs} {lhs : LHS} {m : Rc} {n : Nat} {t : TT (List E)} (hu : SMsOk us) (h1 : ranR us lhs m n t = true) (h2 : fineR n m t = true) (h3 : m.ok = true)
    (h : ∀ i v ro p, EnvOk (m.cx (cxOf n)) ⟨i, fN, v, ro, p⟩ → (∀ d ∈ qXa m.b m.c m.ls 0 0 0, d.n.ev ⟨i, fN, v, ro, p⟩ ≤ d.cap.ev ⟨i, fN, v, ro, p⟩) → (∀ e ∈ m.pre, e.evP ⟨i, fN, v, ro, p⟩ ≠ 0) → statR n m t ⟨i, fN, v, ro, p⟩) : RcOk (cxOf n) m :=
  rc_run (runT_ok hu lhs m n) h1 h2 h3 fun ρ hρ hcap hpre => by
    obtain ⟨i, f, v, ro, p⟩ := ρ
    have hf : f = fN := hρ.hF
    subst hf
    exact h i v ro p hρ hcap hpre
noncomputable def fineH (n : Nat) (m : Rk) (t : TT (List E)) : Bool := TT.fine (m.rh.cx (cxOf n)) 1000 [] t && (m.rh.cx (cxOf n)).okB 1000 && SV.vbL 1000 m.args && TT.tidy (m.rh.cx (cxOf n)) [] t
noncomputable def ranH (us : SMs) (lhs : LHS) (m : Rk) (n : Nat) (t : TT (List E)) : Bool := TT.beq (projL (m.pj (cxOf n)) (runH us lhs m n m.f m.args ⟨m.inb, m.kn0⟩)) t
def statH (n : Nat) (m : Rk) (t : TT (List E)) (ρ : Env) : Prop := TT.hdP (m.rh.cx (cxOf n)) (rsF ρ m.rs) t ρ
theorem okH {us : SMs} {lhs : LHS} {m : Rk} {n : Nat} {t : TT (List E)} (hu : SMsOk us) (h1 : ranH us lhs m n t = true) (h2 : fineH n m t = true) (h4 : blVb 1000 m.inb = true) (h3 : m.ok = true)
    (h : ∀ i v ro p, EnvOk (m.rh.cx (cxOf n)) ⟨i, fN, v, ro, p⟩ → (∀ e ∈ m.pre, e.evP ⟨i, fN, v, ro, p⟩ ≠ 0) → statH n m t ⟨i, fN, v, ro, p⟩) : RhOk (cxOf n) m.rh :=
  rk_run (runH_ok hu lhs m n) h1 h2 h4 h3 fun ρ hρ hpre => by
    obtain ⟨i, f, v, ro, p⟩ := ρ
    have hf : f = fN := hρ.hF
    subst hf
    exact h i v ro p hρ hpre
theorem den_row (ρ : Env) (β : Bt) (k z i j : Nat) : (SV.sl (.inp k) z (.c 0) (.v i) (some (.v j))).den ρ β = .slice (ρ.ro k).a (ρ.i i).toNat (ρ.i j).toNat := by
  simp only [SV.den, E.ev, qXs]
end Go.Proofs.YtppkkgicidagmabGreatDoor
