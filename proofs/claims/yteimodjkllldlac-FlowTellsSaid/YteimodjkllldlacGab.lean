/-
  The program's tables of types, of functions and of all regions that draw their order, as trees; the engine at this program. Printed by program.
-/
import Derived.Test.YteimodjkllldlacGu5
import Derived.Test.YteimodjkllldlacRows
import Derived.WalkKit
import Derived.ProofKit
set_option linter.unusedVariables false
set_option linter.unusedSimpArgs false
namespace Go.Proofs.Yteimodjkllldlac
open Go Go.Eng Go.RowKit
set_option maxRecDepth 100000
noncomputable def tyB : BT TypeInfo := (.node 44 Try.t44 (.node 25 Try.t25 (.node 21 Try.t21 (.node 5 Try.t5 (.node 4 Try.t4 (.node 3 Try.t3 .nil .nil) .nil) (.node 9 Try.t9 .nil .nil)) (.node 23 Try.t23 (.node 22 Try.t22 .nil .nil) (.node 24 Try.t24 .nil .nil))) (.node 32 Try.t32 (.node 30 Try.t30 (.node 27 Try.t27 (.node 26 Try.t26 .nil .nil) .nil) (.node 31 Try.t31 .nil .nil)) (.node 42 Try.t42 (.node 36 Try.t36 .nil .nil) (.node 43 Try.t43 .nil .nil)))) (.node 57 Try.t57 (.node 50 Try.t50 (.node 47 Try.t47 (.node 46 Try.t46 (.node 45 Try.t45 .nil .nil) .nil) (.node 49 Try.t49 .nil .nil)) (.node 54 Try.t54 (.node 53 Try.t53 .nil .nil) (.node 55 Try.t55 .nil .nil))) (.node 82 Try.t82 (.node 79 Try.t79 (.node 70 Try.t70 (.node 58 Try.t58 .nil .nil) .nil) (.node 80 Try.t80 .nil .nil)) (.node 84 Try.t84 (.node 83 Try.t83 .nil .nil) (.node 85 Try.t85 .nil .nil)))))
theorem tyB_ok : tyB.All fun i v => Try.prog.info? i = some v := ⟨Try.type44, ⟨Try.type25, ⟨Try.type21, ⟨Try.type5, ⟨Try.type4, ⟨Try.type3, trivial, trivial⟩, trivial⟩, ⟨Try.type9, trivial, trivial⟩⟩, ⟨Try.type23, ⟨Try.type22, trivial, trivial⟩, ⟨Try.type24, trivial, trivial⟩⟩⟩, ⟨Try.type32, ⟨Try.type30, ⟨Try.type27, ⟨Try.type26, trivial, trivial⟩, trivial⟩, ⟨Try.type31, trivial, trivial⟩⟩, ⟨Try.type42, ⟨Try.type36, trivial, trivial⟩, ⟨Try.type43, trivial, trivial⟩⟩⟩⟩, ⟨Try.type57, ⟨Try.type50, ⟨Try.type47, ⟨Try.type46, ⟨Try.type45, trivial, trivial⟩, trivial⟩, ⟨Try.type49, trivial, trivial⟩⟩, ⟨Try.type54, ⟨Try.type53, trivial, trivial⟩, ⟨Try.type55, trivial, trivial⟩⟩⟩, ⟨Try.type82, ⟨Try.type79, ⟨Try.type70, ⟨Try.type58, trivial, trivial⟩, trivial⟩, ⟨Try.type80, trivial, trivial⟩⟩, ⟨Try.type84, ⟨Try.type83, trivial, trivial⟩, ⟨Try.type85, trivial, trivial⟩⟩⟩⟩⟩
noncomputable def fuB : BT Func := (.node 34 Try.f34 (.node 18 Try.f18 (.node 10 Try.f10 (.node 6 Try.f6 (.node 4 Try.f4 (.node 3 Try.f3 .nil .nil) (.node 5 Try.f5 .nil .nil)) (.node 8 Try.f8 (.node 7 Try.f7 .nil .nil) (.node 9 Try.f9 .nil .nil))) (.node 14 Try.f14 (.node 12 Try.f12 (.node 11 Try.f11 .nil .nil) (.node 13 Try.f13 .nil .nil)) (.node 16 Try.f16 (.node 15 Try.f15 .nil .nil) (.node 17 Try.f17 .nil .nil)))) (.node 26 Try.f26 (.node 22 Try.f22 (.node 20 Try.f20 (.node 19 Try.f19 .nil .nil) (.node 21 Try.f21 .nil .nil)) (.node 24 Try.f24 (.node 23 Try.f23 .nil .nil) (.node 25 Try.f25 .nil .nil))) (.node 30 Try.f30 (.node 28 Try.f28 (.node 27 Try.f27 .nil .nil) (.node 29 Try.f29 .nil .nil)) (.node 32 Try.f32 (.node 31 Try.f31 .nil .nil) (.node 33 Try.f33 .nil .nil))))) (.node 50 Try.f50 (.node 42 Try.f42 (.node 38 Try.f38 (.node 36 Try.f36 (.node 35 Try.f35 .nil .nil) (.node 37 Try.f37 .nil .nil)) (.node 40 Try.f40 (.node 39 Try.f39 .nil .nil) (.node 41 Try.f41 .nil .nil))) (.node 46 Try.f46 (.node 44 Try.f44 (.node 43 Try.f43 .nil .nil) (.node 45 Try.f45 .nil .nil)) (.node 48 Try.f48 (.node 47 Try.f47 .nil .nil) (.node 49 Try.f49 .nil .nil)))) (.node 60 Try.f60 (.node 56 Try.f56 (.node 54 Try.f54 (.node 51 Try.f51 .nil .nil) (.node 55 Try.f55 .nil .nil)) (.node 58 Try.f58 (.node 57 Try.f57 .nil .nil) (.node 59 Try.f59 .nil .nil))) (.node 99 Try.f99 (.node 73 Try.f73 (.node 61 Try.f61 .nil .nil) (.node 98 Try.f98 .nil .nil)) (.node 101 Try.f101 (.node 100 Try.f100 .nil .nil) .nil)))))
theorem fuB_ok : fuB.All fun i v => Try.prog.funcs[i]? = some v := ⟨Try.func34, ⟨Try.func18, ⟨Try.func10, ⟨Try.func6, ⟨Try.func4, ⟨Try.func3, trivial, trivial⟩, ⟨Try.func5, trivial, trivial⟩⟩, ⟨Try.func8, ⟨Try.func7, trivial, trivial⟩, ⟨Try.func9, trivial, trivial⟩⟩⟩, ⟨Try.func14, ⟨Try.func12, ⟨Try.func11, trivial, trivial⟩, ⟨Try.func13, trivial, trivial⟩⟩, ⟨Try.func16, ⟨Try.func15, trivial, trivial⟩, ⟨Try.func17, trivial, trivial⟩⟩⟩⟩, ⟨Try.func26, ⟨Try.func22, ⟨Try.func20, ⟨Try.func19, trivial, trivial⟩, ⟨Try.func21, trivial, trivial⟩⟩, ⟨Try.func24, ⟨Try.func23, trivial, trivial⟩, ⟨Try.func25, trivial, trivial⟩⟩⟩, ⟨Try.func30, ⟨Try.func28, ⟨Try.func27, trivial, trivial⟩, ⟨Try.func29, trivial, trivial⟩⟩, ⟨Try.func32, ⟨Try.func31, trivial, trivial⟩, ⟨Try.func33, trivial, trivial⟩⟩⟩⟩⟩, ⟨Try.func50, ⟨Try.func42, ⟨Try.func38, ⟨Try.func36, ⟨Try.func35, trivial, trivial⟩, ⟨Try.func37, trivial, trivial⟩⟩, ⟨Try.func40, ⟨Try.func39, trivial, trivial⟩, ⟨Try.func41, trivial, trivial⟩⟩⟩, ⟨Try.func46, ⟨Try.func44, ⟨Try.func43, trivial, trivial⟩, ⟨Try.func45, trivial, trivial⟩⟩, ⟨Try.func48, ⟨Try.func47, trivial, trivial⟩, ⟨Try.func49, trivial, trivial⟩⟩⟩⟩, ⟨Try.func60, ⟨Try.func56, ⟨Try.func54, ⟨Try.func51, trivial, trivial⟩, ⟨Try.func55, trivial, trivial⟩⟩, ⟨Try.func58, ⟨Try.func57, trivial, trivial⟩, ⟨Try.func59, trivial, trivial⟩⟩⟩, ⟨Try.func99, ⟨Try.func73, ⟨Try.func61, trivial, trivial⟩, ⟨Try.func98, trivial, trivial⟩⟩, ⟨Try.func101, ⟨Try.func100, trivial, trivial⟩, trivial⟩⟩⟩⟩⟩
def rt3 : BT (List Row) := (.node 3 [⟨0, 0⟩, ⟨1, 1⟩, ⟨0, 0⟩, ⟨6, 4⟩, ⟨10, 10⟩, ⟨24, 16⟩, ⟨32, 32⟩, ⟨96, 96⟩, ⟨32, 32⟩, ⟨416, 288⟩, ⟨672, 672⟩, ⟨1056, 1056⟩, ⟨3072, 2048⟩, ⟨4096, 4096⟩, ⟨12288, 12288⟩, ⟨32767, 16384⟩] .nil .nil)
theorem rw3 : RowAt Try.prog 3 rt3 := qZh Try.func3 (by kernel_rfl)
def rt7 : BT (List Row) := (.node 14 [⟨0, 0⟩, ⟨0, 0⟩, ⟨3, 3⟩, ⟨4, 4⟩, ⟨8, 8⟩, ⟨16, 16⟩, ⟨32, 32⟩, ⟨96, 96⟩, ⟨160, 160⟩, ⟨288, 256⟩, ⟨512, 512⟩, ⟨512, 512⟩, ⟨512, 512⟩, ⟨512, 512⟩, ⟨12800, 12800⟩, ⟨16896, 16896⟩, ⟨36352, 36352⟩, ⟨66048, 66048⟩] (.node 7 [⟨0, 0⟩, ⟨1, 1⟩, ⟨0, 0⟩, ⟨4, 4⟩, ⟨0, 0⟩, ⟨24, 24⟩, ⟨32, 32⟩, ⟨66, 66⟩, ⟨128, 128⟩, ⟨256, 256⟩] .nil .nil) .nil)
theorem rw7 : RowAt Try.prog 7 rt7 := qZh Try.func7 (by kernel_rfl)
def rt8 : BT (List Row) := (.node 6 [⟨0, 0⟩, ⟨0, 0⟩, ⟨3, 3⟩, ⟨4, 4⟩, ⟨0, 0⟩, ⟨0, 0⟩, ⟨48, 48⟩, ⟨64, 64⟩, ⟨136, 136⟩] .nil .nil)
theorem rw8 : RowAt Try.prog 8 rt8 := qZh Try.func8 (by kernel_rfl)
def rt11 : BT (List Row) := (.node 12 [⟨0, 0⟩, ⟨1, 1⟩, ⟨2, 2⟩, ⟨0, 0⟩, ⟨8, 8⟩, ⟨16, 16⟩, ⟨36, 36⟩, ⟨66, 64⟩] .nil .nil)
theorem rw11 : RowAt Try.prog 11 rt11 := qZh Try.func11 (by kernel_rfl)
def rt14 : BT (List Row) := (.node 6 [⟨0, 0⟩, ⟨0, 0⟩, ⟨2, 2⟩, ⟨4, 4⟩, ⟨8, 8⟩, ⟨0, 0⟩, ⟨32, 32⟩, ⟨80, 80⟩, ⟨255, 1⟩, ⟨511, 256⟩, ⟨767, 640⟩] (.node 1 [⟨0, 0⟩, ⟨0, 0⟩, ⟨2, 2⟩, ⟨4, 4⟩, ⟨8, 8⟩, ⟨17, 17⟩, ⟨32, 32⟩, ⟨127, 64⟩] .nil .nil) (.node 8 [⟨0, 0⟩, ⟨0, 0⟩, ⟨0, 0⟩, ⟨4, 4⟩, ⟨8, 8⟩, ⟨0, 0⟩, ⟨32, 32⟩, ⟨80, 64⟩, ⟨157, 1⟩, ⟨413, 256⟩, ⟨669, 528⟩, ⟨2047, 2⟩, ⟨4095, 2048⟩, ⟨6143, 4224⟩] .nil .nil))
theorem rw14 : RowAt Try.prog 14 rt14 := qZh Try.func14 (by kernel_rfl)
def rt16 : BT (List Row) := (.node 2 [⟨0, 0⟩, ⟨1, 1⟩, ⟨0, 0⟩, ⟨4, 4⟩, ⟨8, 8⟩, ⟨18, 18⟩, ⟨32, 32⟩, ⟨0, 0⟩, ⟨128, 128⟩, ⟨0, 0⟩, ⟨512, 512⟩, ⟨1040, 1024⟩, ⟨2304, 2304⟩, ⟨4096, 4096⟩, ⟨0, 0⟩, ⟨16384, 16384⟩, ⟨0, 0⟩, ⟨65536, 65536⟩, ⟨133120, 131072⟩, ⟨294912, 294912⟩, ⟨524288, 524288⟩, ⟨262271, 64⟩, ⟨2113535, 8192⟩, ⟨8388607, 1048576⟩] (.node 1 [⟨0, 0⟩, ⟨1, 1⟩, ⟨2, 2⟩, ⟨4, 4⟩, ⟨0, 0⟩, ⟨24, 24⟩, ⟨32, 32⟩, ⟨0, 0⟩, ⟨128, 128⟩, ⟨256, 256⟩, ⟨512, 512⟩, ⟨0, 0⟩, ⟨3072, 3072⟩, ⟨4096, 4096⟩, ⟨0, 0⟩, ⟨0, 0⟩, ⟨49279, 16448⟩, ⟨131071, 40960⟩] .nil .nil) (.node 13 [⟨0, 0⟩, ⟨1, 1⟩, ⟨2, 2⟩, ⟨6, 6⟩, ⟨10, 10⟩, ⟨18, 18⟩, ⟨34, 34⟩, ⟨2, 2⟩, ⟨130, 130⟩, ⟨322, 322⟩, ⟨514, 514⟩, ⟨1026, 1026⟩, ⟨2050, 2050⟩, ⟨8191, 4096⟩] .nil .nil))
theorem rw16 : RowAt Try.prog 16 rt16 := qZh Try.func16 (by kernel_rfl)
def rt17 : BT (List Row) := (.node 11 [⟨0, 0⟩, ⟨1, 1⟩, ⟨0, 0⟩, ⟨6, 6⟩, ⟨8, 8⟩, ⟨0, 0⟩, ⟨32, 32⟩, ⟨0, 0⟩, ⟨192, 192⟩, ⟨256, 256⟩, ⟨528, 528⟩] .nil .nil)
theorem rw17 : RowAt Try.prog 17 rt17 := qZh Try.func17 (by kernel_rfl)
def rt18 : BT (List Row) := (.node 23 [⟨0, 0⟩, ⟨0, 0⟩, ⟨0, 0⟩, ⟨6, 6⟩, ⟨8, 8⟩, ⟨0, 0⟩, ⟨0, 0⟩, ⟨0, 0⟩, ⟨192, 192⟩, ⟨256, 256⟩, ⟨512, 512⟩, ⟨1024, 1024⟩, ⟨1024, 1024⟩, ⟨7168, 7168⟩, ⟨9216, 9216⟩, ⟨17408, 17408⟩, ⟨17, 17⟩, ⟨65536, 65536⟩, ⟨196607, 131104⟩, ⟨327679, 294912⟩] (.node 12 [⟨0, 0⟩, ⟨0, 0⟩, ⟨0, 0⟩, ⟨0, 0⟩, ⟨12, 12⟩, ⟨16, 16⟩, ⟨35, 35⟩, ⟨0, 0⟩, ⟨255, 192⟩] .nil .nil) (.node 24 [⟨0, 0⟩, ⟨1, 1⟩, ⟨2, 2⟩, ⟨2, 2⟩, ⟨2, 2⟩, ⟨26, 26⟩, ⟨34, 34⟩, ⟨70, 70⟩, ⟨130, 130⟩, ⟨2, 2⟩, ⟨770, 770⟩, ⟨1026, 1026⟩, ⟨4095, 2049⟩] .nil .nil))
theorem rw18 : RowAt Try.prog 18 rt18 := qZh Try.func18 (by kernel_rfl)
def rt20 : BT (List Row) := (.node 1 [⟨0, 0⟩, ⟨1, 1⟩, ⟨0, 0⟩, ⟨6, 6⟩, ⟨8, 8⟩, ⟨0, 0⟩, ⟨32, 32⟩, ⟨0, 0⟩, ⟨192, 192⟩, ⟨256, 256⟩, ⟨0, 0⟩, ⟨1024, 1024⟩, ⟨0, 0⟩, ⟨6144, 6144⟩, ⟨8192, 8192⟩, ⟨31, 16⟩, ⟨33791, 512⟩, ⟨131071, 16384⟩] .nil .nil)
theorem rw20 : RowAt Try.prog 20 rt20 := qZh Try.func20 (by kernel_rfl)
def rt24 : BT (List Row) := (.node 11 [⟨0, 0⟩, ⟨0, 0⟩, ⟨3, 3⟩, ⟨4, 4⟩, ⟨0, 0⟩, ⟨0, 0⟩, ⟨32, 32⟩, ⟨80, 80⟩, ⟨128, 128⟩, ⟨264, 264⟩] (.node 6 [⟨0, 0⟩, ⟨0, 0⟩, ⟨3, 3⟩, ⟨4, 4⟩, ⟨0, 0⟩, ⟨0, 0⟩, ⟨32, 32⟩, ⟨80, 80⟩, ⟨128, 128⟩, ⟨264, 264⟩] .nil .nil) .nil)
theorem rw24 : RowAt Try.prog 24 rt24 := qZh Try.func24 (by kernel_rfl)
def rt28 : BT (List Row) := (.node 4 [⟨0, 0⟩, ⟨1, 1⟩, ⟨2, 2⟩, ⟨4, 4⟩, ⟨0, 0⟩, ⟨0, 0⟩, ⟨63, 24⟩, ⟨127, 96⟩] .nil .nil)
theorem rw28 : RowAt Try.prog 28 rt28 := qZh Try.func28 (by kernel_rfl)
def rt31 : BT (List Row) := (.node 0 [⟨0, 0⟩, ⟨1, 1⟩, ⟨2, 2⟩, ⟨4, 4⟩, ⟨0, 0⟩, ⟨24, 24⟩, ⟨32, 32⟩, ⟨0, 0⟩, ⟨128, 128⟩, ⟨256, 256⟩, ⟨512, 512⟩, ⟨0, 0⟩, ⟨3072, 3072⟩, ⟨4096, 4096⟩, ⟨8192, 8192⟩, ⟨0, 0⟩, ⟨32895, 32832⟩, ⟨131071, 16384⟩] .nil .nil)
theorem rw31 : RowAt Try.prog 31 rt31 := qZh Try.func31 (by kernel_rfl)
def rt33 : BT (List Row) := (.node 1 [⟨0, 0⟩, ⟨1, 1⟩, ⟨2, 2⟩, ⟨4, 4⟩, ⟨8, 8⟩, ⟨24, 24⟩, ⟨40, 40⟩, ⟨72, 72⟩, ⟨136, 128⟩, ⟨256, 256⟩, ⟨768, 768⟩, ⟨1280, 1280⟩, ⟨2304, 2304⟩, ⟨4352, 4096⟩, ⟨8192, 8192⟩, ⟨24576, 24576⟩, ⟨8192, 8192⟩, ⟨73728, 73728⟩, ⟨139264, 139264⟩, ⟨270336, 270336⟩, ⟨532480, 532480⟩, ⟨1056768, 1056768⟩, ⟨2138112, 2138112⟩, ⟨4202496, 4202496⟩, ⟨16777215, 8388608⟩] .nil .nil)
theorem rw33 : RowAt Try.prog 33 rt33 := qZh Try.func33 (by kernel_rfl)
def rt44 : BT (List Row) := (.node 8 [⟨0, 0⟩, ⟨0, 0⟩, ⟨2, 2⟩, ⟨4, 4⟩, ⟨8, 8⟩, ⟨16, 16⟩, ⟨32, 32⟩, ⟨0, 0⟩, ⟨128, 128⟩, ⟨256, 256⟩, ⟨512, 512⟩, ⟨1088, 1088⟩, ⟨0, 0⟩, ⟨4096, 4096⟩, ⟨10240, 10240⟩, ⟨16385, 16385⟩, ⟨65535, 32769⟩] .nil .nil)
theorem rw44 : RowAt Try.prog 44 rt44 := qZh Try.func44 (by kernel_rfl)
def rt48 : BT (List Row) := (.node 13 [⟨0, 0⟩, ⟨1, 1⟩, ⟨2, 2⟩, ⟨4, 4⟩, ⟨8, 8⟩, ⟨0, 0⟩, ⟨32, 32⟩, ⟨80, 80⟩, ⟨128, 128⟩, ⟨511, 256⟩, ⟨1023, 0⟩] .nil .nil)
theorem rw48 : RowAt Try.prog 48 rt48 := qZh Try.func48 (by kernel_rfl)
def rt98 : BT (List Row) := (.node 1 [⟨0, 0⟩, ⟨0, 0⟩, ⟨3, 3⟩, ⟨4, 4⟩, ⟨0, 0⟩, ⟨0, 0⟩, ⟨48, 48⟩, ⟨64, 64⟩, ⟨136, 136⟩, ⟨511, 256⟩] .nil .nil)
theorem rw98 : RowAt Try.prog 98 rt98 := qZh Try.func98 (by kernel_rfl)
def rt99 : BT (List Row) := (.node 0 [⟨0, 0⟩, ⟨0, 0⟩, ⟨0, 0⟩, ⟨0, 0⟩, ⟨0, 0⟩, ⟨0, 0⟩, ⟨48, 48⟩, ⟨64, 64⟩, ⟨0, 0⟩, ⟨0, 0⟩, ⟨768, 768⟩, ⟨1024, 1024⟩, ⟨2291, 3⟩, ⟨6387, 4224⟩, ⟨16383, 12⟩, ⟨32767, 18432⟩] .nil .nil)
theorem rw99 : RowAt Try.prog 99 rt99 := qZh Try.func99 (by kernel_rfl)
def rtB : RowT := (.node 20 rt20 (.node 14 rt14 (.node 8 rt8 (.node 7 rt7 (.node 3 rt3 .nil .nil) .nil) (.node 11 rt11 .nil .nil)) (.node 17 rt17 (.node 16 rt16 .nil .nil) (.node 18 rt18 .nil .nil))) (.node 44 rt44 (.node 31 rt31 (.node 28 rt28 (.node 24 rt24 .nil .nil) .nil) (.node 33 rt33 .nil .nil)) (.node 98 rt98 (.node 48 rt48 .nil .nil) (.node 99 rt99 .nil .nil))))
theorem rtB_ok : RtsOk Try.prog (rtsB rtB) := rtsB_ok ⟨rw20, ⟨rw14, ⟨rw8, ⟨rw7, ⟨rw3, trivial, trivial⟩, trivial⟩, ⟨rw11, trivial, trivial⟩⟩, ⟨rw17, ⟨rw16, trivial, trivial⟩, ⟨rw18, trivial, trivial⟩⟩⟩, ⟨rw44, ⟨rw31, ⟨rw28, ⟨rw24, trivial, trivial⟩, trivial⟩, ⟨rw33, trivial, trivial⟩⟩, ⟨rw98, ⟨rw48, trivial, trivial⟩, ⟨rw99, trivial, trivial⟩⟩⟩⟩

theorem own : ownKnob Try.prog.godebug = none := by kernel_rfl
theorem laidOut : laidOutB Try.prog = true := by kernel_rfl
theorem nogo : (Try.prog.funcs.all fun fn => fn.name != "runtime.NumGoroutine") = true := by kernel_rfl
theorem mixedOk : Try.prog.follows .mixedOrders = true := by kernel_rfl
/-- the types whose values are compared with no panic -/
noncomputable def seqB (t : TypeId) : Bool := !Try.prog.eqGuardType Try.prog.depth t && !Try.prog.stoodInHeld t
/-- the tables that the row lays, as rows that come in -/
def tabsL : List InD := []
/-- n: how deep a number may be without a name (0: none is named) -/
noncomputable def cxOf (n : Nat) : Cx :=
  { P := Try.prog, Γ := [], Φ := phiN, F := fN, lf := lfN, ins := [], tabs := tabsL, sh := n, und := undB tyB, inf := infB tyB, fn := fnB fuB, seq := seqB,
    undOk := undB_ok tyB_ok, infOk := fun _ _ h => BT.find_all tyB_ok h, fnOk := fun _ _ h => BT.find_all fuB_ok h,
    seqOk := fun t h => by unfold seqB at h; simpa using h }
theorem cxOf_ok (n : Nat) (m : Rc) : CxOk (m.cx (cxOf n)) :=
  ⟨mixedOk, fun f fn h => by
    have h1 := Array.all_eq_true.1 nogo
    obtain ⟨h2, h3⟩ := Array.getElem?_eq_some_iff.1 h
    have := h1 f h2
    have h4 : (Try.prog.funcs[f]'h2) = fn := h3
    rw [h4] at this
    simpa using this⟩
/-- the same, with what comes in -/
noncomputable def cxG (n : Nat) (Γ : List (Int × Int)) (ins : List InD) : Cx := { cxOf n with Γ := Γ, ins := ins ++ tabsL }
theorem tabsAll : (tabsL.all fun d => d.c.vb 0 && (d.n.vb 0 && d.cap.vb 0)) = true := by kernel_rfl
theorem tabsG (n : Nat) (Γ : List (Int × Int)) (ins : List InD) : TabsOk (cxG n Γ ins) := ⟨⟨ins, rfl⟩, fun d hd => by have := List.all_eq_true.1 tabsAll d hd; simp only [Bool.and_eq_true] at this; exact this⟩
theorem cxG_ok (n : Nat) (Γ : List (Int × Int)) (ins : List InD) : CxOk (cxG n Γ ins) :=
  ⟨mixedOk, fun f fn h => by
    have h1 := Array.all_eq_true.1 nogo
    obtain ⟨h2, h3⟩ := Array.getElem?_eq_some_iff.1 h
    have := h1 f h2
    have h4 : (Try.prog.funcs[f]'h2) = fn := h3
    rw [h4] at this
    simpa using this⟩
/-- a contract holds however much is named, and whatever else comes in -/
theorem rc_n {n k : Nat} {Γ : List (Int × Int)} {ins : List InD} {m : Rc} (h : RcOk (cxOf n) m) : RcOk (cxG k Γ ins) m :=
  fun ρ w hρ hc hp hr => h ρ w ⟨hρ.hi, hρ.hf, hρ.hv, hρ.hF, hρ.hP, hρ.hro⟩ hc hp hr
theorem rh_n {n k : Nat} {Γ : List (Int × Int)} {ins : List InD} {m : Rh} (h : RhOk (cxOf n) m) : RhOk (cxG k Γ ins) m :=
  fun ρ β w hρ hp hs => h ρ β w ⟨hρ.hi, hρ.hf, hρ.hv, hρ.hF, hρ.hP, hρ.hro⟩ hp hs
theorem mg {α : Type} {l : List α} {a : α} (i : Nat) (h : l[i]? = some a) : a ∈ l := List.mem_of_getElem? h
/-- the engine's runs -/
abbrev SMs := List (Int × Int) → List InD → Nat → SM
def SMsOk (sm : SMs) : Prop := ∀ Γ ins n, SmOk (cxG n Γ ins) (sm Γ ins n)
noncomputable def runC (sm : SMs) (Γ : List (Int × Int)) (ins : List InD) (n : Nat) : CF := execFn (cxG n Γ ins) (rtsB rtB) (sm Γ ins n) (fun _ _ => none) 40 30
theorem xok0 (cx : Cx) : XOk cx (fun _ _ => none) := fun _ _ _ _ _ _ _ h => by cases h
theorem runC_ok {sm : SMs} (h : SMsOk sm) (Γ : List (Int × Int)) (ins : List InD) (n : Nat) : qKn (cxG n Γ ins) (runC sm Γ ins n) := execFn_ok (cxG_ok n Γ ins) rtB_ok (h Γ ins n) (xok0 _) _
noncomputable def runG (sm : SMs) (lhs : LHS) (Γ : List (Int × Int)) (ins : List InD) (n : Nat) : CFT := execFnT (cxG n Γ ins) (rtsB rtB) (sm Γ ins n) (fun _ _ => none) lhs (runC sm Γ ins n) 40 30
theorem runG_ok {sm : SMs} (h : SMsOk sm) (lhs : LHS) (Γ : List (Int × Int)) (ins : List InD) (n : Nat) : qJb (cxG n Γ ins) (runG sm lhs Γ ins n) :=
  execFnT_ok (cxG_ok n Γ ins) rtB_ok (h Γ ins n) (xok0 _) (runC_ok h Γ ins n) _
noncomputable def runT (sm : SMs) (lhs : LHS) (m : Rc) (n : Nat) : CFT := runG sm lhs (bdsF m.ls) (qXg m.b m.c m.ls 0 0 0) n
theorem runT_ok {sm : SMs} (h : SMsOk sm) (lhs : LHS) (m : Rc) (n : Nat) : qJb (m.cx (cxOf n)) (runT sm lhs m n) := runG_ok h lhs _ _ n
noncomputable def runH (sm : SMs) (lhs : LHS) (m : Rk) (n : Nat) : CFT := runG sm lhs m.Γ m.ins n
theorem runH_ok {sm : SMs} (h : SMsOk sm) (lhs : LHS) (m : Rk) (n : Nat) : qJb (m.rh.cx (cxOf n)) (runH sm lhs m n) := runG_ok h lhs m.Γ m.ins n
/-! the parts of a contract's proof -/
noncomputable def fineR (n : Nat) (m : Rc) (t : TT (List E)) : Bool := TT.fine (m.cx (cxOf n)) 1000 [] t && (m.cx (cxOf n)).okB 1000 && SV.vbL 1000 m.args && TT.tidy (m.cx (cxOf n)) [] t
noncomputable def ranR (us : SMs) (lhs : LHS) (m : Rc) (n : Nat) (t : TT (List E)) : Bool := TT.beq (projL (m.pj (cxOf n)) (runT us lhs m n m.f m.args ⟨[], []⟩)) t
def statR (n : Nat) (m : Rc) (t : TT (List E)) (ρ : Env) : Prop := TT.hdP (m.cx (cxOf n)) (rlF ρ m.res) t ρ
theorem okR {us : SMs} {lhs : LHS} {m : Rc} {n : Nat} {t : TT (List E)} (hu : SMsOk us) (h1 : ranR us lhs m n t = true) (h2 : fineR n m t = true) (h3 : m.ok = true)
    (h : ∀ i v ro p, EnvOk (m.cx (cxOf n)) ⟨i, fN, v, ro, p⟩ → (∀ d ∈ qXg m.b m.c m.ls 0 0 0, d.n.ev ⟨i, fN, v, ro, p⟩ ≤ d.cap.ev ⟨i, fN, v, ro, p⟩) → (∀ e ∈ m.pre, e.evP ⟨i, fN, v, ro, p⟩ ≠ 0) → statR n m t ⟨i, fN, v, ro, p⟩) : RcOk (cxOf n) m :=
  rc_run (runT_ok hu lhs m n) h1 h2 h3 fun ρ hρ hcap hpre => by
    obtain ⟨i, f, v, ro, p⟩ := ρ
    have hf : f = fN := hρ.hF
    subst hf
    exact h i v ro p hρ hcap hpre
noncomputable def fineH (n : Nat) (m : Rk) (t : TT (List E)) : Bool := TT.fine (m.rh.cx (cxOf n)) 1000 [] t && (m.rh.cx (cxOf n)).okB 1000 && SV.vbL 1000 m.args && TT.tidy (m.rh.cx (cxOf n)) [] t
noncomputable def ranH (us : SMs) (lhs : LHS) (m : Rk) (n : Nat) (t : TT (List E)) : Bool := TT.beq (projL (m.pj (cxOf n)) (runH us lhs m n m.f m.args ⟨m.inb, m.kn0⟩)) t
def statH (n : Nat) (m : Rk) (t : TT (List E)) (ρ : Env) : Prop := TT.hdP (m.rh.cx (cxOf n)) (rsF ρ m.rs) t ρ
theorem okH {us : SMs} {lhs : LHS} {m : Rk} {n : Nat} {t : TT (List E)} (hu : SMsOk us) (h1 : ranH us lhs m n t = true) (h2 : fineH n m t = true) (h4 : blVb 1000 m.inb = true) (h3 : m.ok = true)
    (h : ∀ i v ro p, EnvOk (m.rh.cx (cxOf n)) ⟨i, fN, v, ro, p⟩ → (∀ e ∈ m.pre, e.evP ⟨i, fN, v, ro, p⟩ ≠ 0) → statH n m t ⟨i, fN, v, ro, p⟩) : RhOk (cxOf n) m.rh :=
  rk_run (runH_ok hu lhs m n) h1 h2 h4 h3 fun ρ hρ hpre => by
    obtain ⟨i, f, v, ro, p⟩ := ρ
    have hf : f = fN := hρ.hF
    subst hf
    exact h i v ro p hρ hpre
theorem den_row (ρ : Env) (β : Bt) (k z i j : Nat) : (SV.sl (.inp k) z (.c 0) (.v i) (some (.v j))).den ρ β = .slice (ρ.ro k).a (ρ.i i).toNat (ρ.i j).toNat := by
  simp only [SV.den, E.ev, map_addr_zero]
end Go.Proofs.Yteimodjkllldlac
