/-
  Parts of the engine, a program's symbolic run, proved sound; and of plain laws.
-/
import Derived.Test.YteimodjkllldlaaGreatDoorGmU
set_option linter.unusedVariables false
set_option linter.unusedSimpArgs false

/-!  -/
noncomputable section
namespace Go.Eng
section
variable {nr cS : Int} {S : Int → Prop} {A B : Mac}
end
section
variable {nr cS op d a b n : Int} {S : Int → Prop} {A B : Mac}
end
structure FlowOk (w nc nr cS : Int) (L : Lv) : Prop where
 start : 0 < nc → L.re 0
 next : ∀ pc t, 0 ≤ pc → pc < nc → L.re pc → decZ (IntKind.wrap .u32 (rdZ w pc)) 5 = 0 →
  nxtP nr (decZ (IntKind.wrap .u32 (rdZ w pc)) 0) (decZ (IntKind.wrap .u32 (rdZ w pc)) 2) (decZ (IntKind.wrap .u32 (rdZ w pc)) 4) pc t → 0 ≤ t → t < nc → L.re t ∧ ∀ r, 0 ≤ r → r < 32 →
  behS nr cS (decZ (IntKind.wrap .u32 (rdZ w pc)) 0) (decZ (IntKind.wrap .u32 (rdZ w pc)) 1) (decZ (IntKind.wrap .u32 (rdZ w pc)) 2) (decZ (IntKind.wrap .u32 (rdZ w pc)) 3) (decZ (IntKind.wrap .u32 (rdZ w pc)) 4) (L.se pc) r → L.se t r
 fine : ∀ pc, 0 ≤ pc → pc < nc → L.re pc → decZ (IntKind.wrap .u32 (rdZ w pc)) 5 = 0 →
  ¬ wrongP nr cS (decZ (IntKind.wrap .u32 (rdZ w pc)) 0) (decZ (IntKind.wrap .u32 (rdZ w pc)) 1) (decZ (IntKind.wrap .u32 (rdZ w pc)) 2) (decZ (IntKind.wrap .u32 (rdZ w pc)) 3) (decZ (IntKind.wrap .u32 (rdZ w pc)) 4) (L.se pc)
def secAt (nc : Int) (L : Lv) (pc r : Int) : Prop := ¬ (0 ≤ pc ∧ pc < nc) ∨ L.se pc r
section
variable {w nr cS : Int} {nc : Nat} {L : Lv}
end
end Go.Eng
end
