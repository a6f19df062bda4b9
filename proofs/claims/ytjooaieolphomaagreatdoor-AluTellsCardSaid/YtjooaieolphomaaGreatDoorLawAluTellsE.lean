/-
  The law AluTells answers true at every input: the law's function is run by the engine (a program's symbolic run, proved sound), and the tree of its answers, as a plain statement, is shown to hold. No condition but the table that the row lays, tied to the program's text by the card.
-/
import Derived.Test.YtjooaieolphomaaGreatDoorRows
import Derived.Test.YtjooaieolphomaaGreatDoorLawAluTellsO
import Derived.Test.YtjooaieolphomaaGreatDoorCards
import Derived.Test.YtjooaieolphomaaGreatDoorTie
import Derived.Test.YtjooaieolphomaaGreatDoorFmM
import Derived.Test.YtjooaieolphomaaGreatDoorEu4
import Derived.Test.YtjooaieolphomaaGreatDoorEu5
import Derived.WalkKit
import Derived.ProofKit
import Derived.OpenShut
import Derived.LaidMore
import Derived.Stop.Joined
import Derived.SevenTiedAt
namespace Go.Proofs.YtjooaieolphomaaGreatDoor.aluTells
open Go.ChangeShapes Go.WideShapes Go.ChangeAt Go.RowKit
open Go.Eng
set_option linter.unusedVariables false
set_option linter.unusedSimpArgs false

set_option maxRecDepth 100000
namespace c21
def tree : TT (List E) :=
(.br (.b .eq .i64 (.v 2) (.c 0))
  (.br (.b .lt .i64 (.b .rem .i64 (.b .pmul .i64 (.v 1) (.v 2)) (.c 65536)) (.c 0))
  (.br (.b .le .i64 (.c 32768) (.b .padd .i64 (.b .rem .i64 (.b .pmul .i64 (.v 1) (.v 2)) (.c 65536)) (.c 65536)))
  (.br (.b .eq .i64 (.b .min .i64 (.b .max .i64 (.b .padd .i64 (.b .shr .i64 (.b .pmul .i64 (.v 1) (.v 2)) (.c 16)) (.b .and .i64 (.b .shr .i64 (.b .pmul .i64 (.v 1) (.v 2)) (.c 15)) (.c 1))) (.c (-2147483648))) (.c 2147483647)) (.b .min .i64 (.b .max .i64 (.w .i64 (.b .padd .i64 (.b .quo .i64 (.b .psub .i64 (.b .pmul .i64 (.v 1) (.v 2)) (.b .padd .i64 (.b .rem .i64 (.b .pmul .i64 (.v 1) (.v 2)) (.c 65536)) (.c 65536))) (.c 65536)) (.c 1))) (.c (-2147483648))) (.c 2147483647)))
  (.br (.b .eq .i64 (.w .i64 (.f 13 (.v 3) (.c 20) (.c 0))) (.c 3))
  (.leaf [(.b .eq .i64 (.w .i64 (.b .padd .i64 (.w .i64 (.f 13 (.v 3) (.c 21) (.c 0))) (.c 3))) (.c 5))])
  (.leaf [(.c 0)]))
  (.leaf [(.c 0)]))
  (.br (.b .eq .i64 (.b .min .i64 (.b .max .i64 (.b .padd .i64 (.b .shr .i64 (.b .pmul .i64 (.v 1) (.v 2)) (.c 16)) (.b .and .i64 (.b .shr .i64 (.b .pmul .i64 (.v 1) (.v 2)) (.c 15)) (.c 1))) (.c (-2147483648))) (.c 2147483647)) (.b .min .i64 (.b .max .i64 (.b .quo .i64 (.b .psub .i64 (.b .pmul .i64 (.v 1) (.v 2)) (.b .padd .i64 (.b .rem .i64 (.b .pmul .i64 (.v 1) (.v 2)) (.c 65536)) (.c 65536))) (.c 65536)) (.c (-2147483648))) (.c 2147483647)))
  (.br (.b .eq .i64 (.w .i64 (.f 13 (.v 3) (.c 20) (.c 0))) (.c 3))
  (.leaf [(.b .eq .i64 (.w .i64 (.b .padd .i64 (.w .i64 (.f 13 (.v 3) (.c 21) (.c 0))) (.c 3))) (.c 5))])
  (.leaf [(.c 0)]))
  (.leaf [(.c 0)])))
  (.br (.b .le .i64 (.c 32768) (.b .rem .i64 (.b .pmul .i64 (.v 1) (.v 2)) (.c 65536)))
  (.br (.b .eq .i64 (.b .min .i64 (.b .max .i64 (.b .padd .i64 (.b .shr .i64 (.b .pmul .i64 (.v 1) (.v 2)) (.c 16)) (.b .and .i64 (.b .shr .i64 (.b .pmul .i64 (.v 1) (.v 2)) (.c 15)) (.c 1))) (.c (-2147483648))) (.c 2147483647)) (.b .min .i64 (.b .max .i64 (.w .i64 (.b .padd .i64 (.b .quo .i64 (.b .psub .i64 (.b .pmul .i64 (.v 1) (.v 2)) (.b .rem .i64 (.b .pmul .i64 (.v 1) (.v 2)) (.c 65536))) (.c 65536)) (.c 1))) (.c (-2147483648))) (.c 2147483647)))
  (.br (.b .eq .i64 (.w .i64 (.f 13 (.v 3) (.c 20) (.c 0))) (.c 3))
  (.leaf [(.b .eq .i64 (.w .i64 (.b .padd .i64 (.w .i64 (.f 13 (.v 3) (.c 21) (.c 0))) (.c 3))) (.c 5))])
  (.leaf [(.c 0)]))
  (.leaf [(.c 0)]))
  (.br (.b .eq .i64 (.b .min .i64 (.b .max .i64 (.b .padd .i64 (.b .shr .i64 (.b .pmul .i64 (.v 1) (.v 2)) (.c 16)) (.b .and .i64 (.b .shr .i64 (.b .pmul .i64 (.v 1) (.v 2)) (.c 15)) (.c 1))) (.c (-2147483648))) (.c 2147483647)) (.b .min .i64 (.b .max .i64 (.b .quo .i64 (.b .psub .i64 (.b .pmul .i64 (.v 1) (.v 2)) (.b .rem .i64 (.b .pmul .i64 (.v 1) (.v 2)) (.c 65536))) (.c 65536)) (.c (-2147483648))) (.c 2147483647)))
  (.br (.b .eq .i64 (.w .i64 (.f 13 (.v 3) (.c 20) (.c 0))) (.c 3))
  (.leaf [(.b .eq .i64 (.w .i64 (.b .padd .i64 (.w .i64 (.f 13 (.v 3) (.c 21) (.c 0))) (.c 3))) (.c 5))])
  (.leaf [(.c 0)]))
  (.leaf [(.c 0)]))))
  (.br (.b .lt .i64 (.b .rem .i64 (.b .pmul .i64 (.v 1) (.v 2)) (.c 65536)) (.c 0))
  (.br (.b .le .i64 (.c 32768) (.b .padd .i64 (.b .rem .i64 (.b .pmul .i64 (.v 1) (.v 2)) (.c 65536)) (.c 65536)))
  (.br (.b .eq .i64 (.b .min .i64 (.b .max .i64 (.b .padd .i64 (.b .shr .i64 (.b .pmul .i64 (.v 1) (.v 2)) (.c 16)) (.b .and .i64 (.b .shr .i64 (.b .pmul .i64 (.v 1) (.v 2)) (.c 15)) (.c 1))) (.c (-2147483648))) (.c 2147483647)) (.b .min .i64 (.b .max .i64 (.w .i64 (.b .padd .i64 (.b .quo .i64 (.b .psub .i64 (.b .pmul .i64 (.v 1) (.v 2)) (.b .padd .i64 (.b .rem .i64 (.b .pmul .i64 (.v 1) (.v 2)) (.c 65536)) (.c 65536))) (.c 65536)) (.c 1))) (.c (-2147483648))) (.c 2147483647)))
  (.br (.b .eq .i64 (.w .i64 (.f 13 (.v 3) (.c 20) (.c 0))) (.c 3))
  (.leaf [(.b .eq .i64 (.w .i64 (.b .padd .i64 (.w .i64 (.f 13 (.v 3) (.c 21) (.c 0))) (.c 3))) (.c 5))])
  (.leaf [(.c 0)]))
  (.leaf [(.c 0)]))
  (.br (.b .eq .i64 (.b .min .i64 (.b .max .i64 (.b .padd .i64 (.b .shr .i64 (.b .pmul .i64 (.v 1) (.v 2)) (.c 16)) (.b .and .i64 (.b .shr .i64 (.b .pmul .i64 (.v 1) (.v 2)) (.c 15)) (.c 1))) (.c (-2147483648))) (.c 2147483647)) (.b .min .i64 (.b .max .i64 (.b .quo .i64 (.b .psub .i64 (.b .pmul .i64 (.v 1) (.v 2)) (.b .padd .i64 (.b .rem .i64 (.b .pmul .i64 (.v 1) (.v 2)) (.c 65536)) (.c 65536))) (.c 65536)) (.c (-2147483648))) (.c 2147483647)))
  (.br (.b .eq .i64 (.w .i64 (.f 13 (.v 3) (.c 20) (.c 0))) (.c 3))
  (.leaf [(.b .eq .i64 (.w .i64 (.b .padd .i64 (.w .i64 (.f 13 (.v 3) (.c 21) (.c 0))) (.c 3))) (.c 5))])
  (.leaf [(.c 0)]))
  (.leaf [(.c 0)])))
  (.br (.b .le .i64 (.c 32768) (.b .rem .i64 (.b .pmul .i64 (.v 1) (.v 2)) (.c 65536)))
  (.br (.b .eq .i64 (.b .min .i64 (.b .max .i64 (.b .padd .i64 (.b .shr .i64 (.b .pmul .i64 (.v 1) (.v 2)) (.c 16)) (.b .and .i64 (.b .shr .i64 (.b .pmul .i64 (.v 1) (.v 2)) (.c 15)) (.c 1))) (.c (-2147483648))) (.c 2147483647)) (.b .min .i64 (.b .max .i64 (.w .i64 (.b .padd .i64 (.b .quo .i64 (.b .psub .i64 (.b .pmul .i64 (.v 1) (.v 2)) (.b .rem .i64 (.b .pmul .i64 (.v 1) (.v 2)) (.c 65536))) (.c 65536)) (.c 1))) (.c (-2147483648))) (.c 2147483647)))
  (.br (.b .eq .i64 (.w .i64 (.f 13 (.v 3) (.c 20) (.c 0))) (.c 3))
  (.leaf [(.b .eq .i64 (.w .i64 (.b .padd .i64 (.w .i64 (.f 13 (.v 3) (.c 21) (.c 0))) (.c 3))) (.c 5))])
  (.leaf [(.c 0)]))
  (.leaf [(.c 0)]))
  (.br (.b .eq .i64 (.b .min .i64 (.b .max .i64 (.b .padd .i64 (.b .shr .i64 (.b .pmul .i64 (.v 1) (.v 2)) (.c 16)) (.b .and .i64 (.b .shr .i64 (.b .pmul .i64 (.v 1) (.v 2)) (.c 15)) (.c 1))) (.c (-2147483648))) (.c 2147483647)) (.b .min .i64 (.b .max .i64 (.b .quo .i64 (.b .psub .i64 (.b .pmul .i64 (.v 1) (.v 2)) (.b .rem .i64 (.b .pmul .i64 (.v 1) (.v 2)) (.c 65536))) (.c 65536)) (.c (-2147483648))) (.c 2147483647)))
  (.br (.b .eq .i64 (.w .i64 (.f 13 (.v 3) (.c 20) (.c 0))) (.c 3))
  (.leaf [(.b .eq .i64 (.w .i64 (.b .padd .i64 (.w .i64 (.f 13 (.v 3) (.c 21) (.c 0))) (.c 3))) (.c 5))])
  (.leaf [(.c 0)]))
  (.leaf [(.c 0)])))))

def P (a0 a1 a2 a3 : Int) : Prop :=
 (((bool01 (a2 == 0)) ≠ 0 →
  (((bool01 (decide ((BO.ev .rem .i64 (a1 * a2) 65536) < 0))) ≠ 0 →
   (((bool01 (decide (32768 ≤ ((BO.ev .rem .i64 (a1 * a2) 65536) + 65536)))) ≠ 0 →
    (((bool01 ((sat32 ((shrZ .i64 (a1 * a2) 16) + (band .i64 (shrZ .i64 (a1 * a2) 15) 1))) == (sat32 (IntKind.wrap .i64 ((BO.ev .quo .i64 ((a1 * a2) - ((BO.ev .rem .i64 (a1 * a2) 65536) + 65536)) 65536) + 1))))) ≠ 0 →
     (((bool01 ((IntKind.wrap .i64 (rdZ a3 20)) == 3)) ≠ 0 →
      ((bool01 ((IntKind.wrap .i64 ((IntKind.wrap .i64 (rdZ a3 21)) + 3)) == 5)) : Int) ≠ 0) ∧ ((bool01 ((IntKind.wrap .i64 (rdZ a3 20)) == 3)) = 0 →
      (0 : Int) ≠ 0))) ∧ ((bool01 ((sat32 ((shrZ .i64 (a1 * a2) 16) + (band .i64 (shrZ .i64 (a1 * a2) 15) 1))) == (sat32 (IntKind.wrap .i64 ((BO.ev .quo .i64 ((a1 * a2) - ((BO.ev .rem .i64 (a1 * a2) 65536) + 65536)) 65536) + 1))))) = 0 →
     (0 : Int) ≠ 0))) ∧ ((bool01 (decide (32768 ≤ ((BO.ev .rem .i64 (a1 * a2) 65536) + 65536)))) = 0 →
    (((bool01 ((sat32 ((shrZ .i64 (a1 * a2) 16) + (band .i64 (shrZ .i64 (a1 * a2) 15) 1))) == (sat32 (BO.ev .quo .i64 ((a1 * a2) - ((BO.ev .rem .i64 (a1 * a2) 65536) + 65536)) 65536)))) ≠ 0 →
     (((bool01 ((IntKind.wrap .i64 (rdZ a3 20)) == 3)) ≠ 0 →
      ((bool01 ((IntKind.wrap .i64 ((IntKind.wrap .i64 (rdZ a3 21)) + 3)) == 5)) : Int) ≠ 0) ∧ ((bool01 ((IntKind.wrap .i64 (rdZ a3 20)) == 3)) = 0 →
      (0 : Int) ≠ 0))) ∧ ((bool01 ((sat32 ((shrZ .i64 (a1 * a2) 16) + (band .i64 (shrZ .i64 (a1 * a2) 15) 1))) == (sat32 (BO.ev .quo .i64 ((a1 * a2) - ((BO.ev .rem .i64 (a1 * a2) 65536) + 65536)) 65536)))) = 0 →
     (0 : Int) ≠ 0))))) ∧ ((bool01 (decide ((BO.ev .rem .i64 (a1 * a2) 65536) < 0))) = 0 →
   (((bool01 (decide (32768 ≤ (BO.ev .rem .i64 (a1 * a2) 65536)))) ≠ 0 →
    (((bool01 ((sat32 ((shrZ .i64 (a1 * a2) 16) + (band .i64 (shrZ .i64 (a1 * a2) 15) 1))) == (sat32 (IntKind.wrap .i64 ((BO.ev .quo .i64 ((a1 * a2) - (BO.ev .rem .i64 (a1 * a2) 65536)) 65536) + 1))))) ≠ 0 →
     (((bool01 ((IntKind.wrap .i64 (rdZ a3 20)) == 3)) ≠ 0 →
      ((bool01 ((IntKind.wrap .i64 ((IntKind.wrap .i64 (rdZ a3 21)) + 3)) == 5)) : Int) ≠ 0) ∧ ((bool01 ((IntKind.wrap .i64 (rdZ a3 20)) == 3)) = 0 →
      (0 : Int) ≠ 0))) ∧ ((bool01 ((sat32 ((shrZ .i64 (a1 * a2) 16) + (band .i64 (shrZ .i64 (a1 * a2) 15) 1))) == (sat32 (IntKind.wrap .i64 ((BO.ev .quo .i64 ((a1 * a2) - (BO.ev .rem .i64 (a1 * a2) 65536)) 65536) + 1))))) = 0 →
     (0 : Int) ≠ 0))) ∧ ((bool01 (decide (32768 ≤ (BO.ev .rem .i64 (a1 * a2) 65536)))) = 0 →
    (((bool01 ((sat32 ((shrZ .i64 (a1 * a2) 16) + (band .i64 (shrZ .i64 (a1 * a2) 15) 1))) == (sat32 (BO.ev .quo .i64 ((a1 * a2) - (BO.ev .rem .i64 (a1 * a2) 65536)) 65536)))) ≠ 0 →
     (((bool01 ((IntKind.wrap .i64 (rdZ a3 20)) == 3)) ≠ 0 →
      ((bool01 ((IntKind.wrap .i64 ((IntKind.wrap .i64 (rdZ a3 21)) + 3)) == 5)) : Int) ≠ 0) ∧ ((bool01 ((IntKind.wrap .i64 (rdZ a3 20)) == 3)) = 0 →
      (0 : Int) ≠ 0))) ∧ ((bool01 ((sat32 ((shrZ .i64 (a1 * a2) 16) + (band .i64 (shrZ .i64 (a1 * a2) 15) 1))) == (sat32 (BO.ev .quo .i64 ((a1 * a2) - (BO.ev .rem .i64 (a1 * a2) 65536)) 65536)))) = 0 →
     (0 : Int) ≠ 0))))))) ∧ ((bool01 (a2 == 0)) = 0 →
  (((bool01 (decide ((BO.ev .rem .i64 (a1 * a2) 65536) < 0))) ≠ 0 →
   (((bool01 (decide (32768 ≤ ((BO.ev .rem .i64 (a1 * a2) 65536) + 65536)))) ≠ 0 →
    (((bool01 ((sat32 ((shrZ .i64 (a1 * a2) 16) + (band .i64 (shrZ .i64 (a1 * a2) 15) 1))) == (sat32 (IntKind.wrap .i64 ((BO.ev .quo .i64 ((a1 * a2) - ((BO.ev .rem .i64 (a1 * a2) 65536) + 65536)) 65536) + 1))))) ≠ 0 →
     (((bool01 ((IntKind.wrap .i64 (rdZ a3 20)) == 3)) ≠ 0 →
      ((bool01 ((IntKind.wrap .i64 ((IntKind.wrap .i64 (rdZ a3 21)) + 3)) == 5)) : Int) ≠ 0) ∧ ((bool01 ((IntKind.wrap .i64 (rdZ a3 20)) == 3)) = 0 →
      (0 : Int) ≠ 0))) ∧ ((bool01 ((sat32 ((shrZ .i64 (a1 * a2) 16) + (band .i64 (shrZ .i64 (a1 * a2) 15) 1))) == (sat32 (IntKind.wrap .i64 ((BO.ev .quo .i64 ((a1 * a2) - ((BO.ev .rem .i64 (a1 * a2) 65536) + 65536)) 65536) + 1))))) = 0 →
     (0 : Int) ≠ 0))) ∧ ((bool01 (decide (32768 ≤ ((BO.ev .rem .i64 (a1 * a2) 65536) + 65536)))) = 0 →
    (((bool01 ((sat32 ((shrZ .i64 (a1 * a2) 16) + (band .i64 (shrZ .i64 (a1 * a2) 15) 1))) == (sat32 (BO.ev .quo .i64 ((a1 * a2) - ((BO.ev .rem .i64 (a1 * a2) 65536) + 65536)) 65536)))) ≠ 0 →
     (((bool01 ((IntKind.wrap .i64 (rdZ a3 20)) == 3)) ≠ 0 →
      ((bool01 ((IntKind.wrap .i64 ((IntKind.wrap .i64 (rdZ a3 21)) + 3)) == 5)) : Int) ≠ 0) ∧ ((bool01 ((IntKind.wrap .i64 (rdZ a3 20)) == 3)) = 0 →
      (0 : Int) ≠ 0))) ∧ ((bool01 ((sat32 ((shrZ .i64 (a1 * a2) 16) + (band .i64 (shrZ .i64 (a1 * a2) 15) 1))) == (sat32 (BO.ev .quo .i64 ((a1 * a2) - ((BO.ev .rem .i64 (a1 * a2) 65536) + 65536)) 65536)))) = 0 →
     (0 : Int) ≠ 0))))) ∧ ((bool01 (decide ((BO.ev .rem .i64 (a1 * a2) 65536) < 0))) = 0 →
   (((bool01 (decide (32768 ≤ (BO.ev .rem .i64 (a1 * a2) 65536)))) ≠ 0 →
    (((bool01 ((sat32 ((shrZ .i64 (a1 * a2) 16) + (band .i64 (shrZ .i64 (a1 * a2) 15) 1))) == (sat32 (IntKind.wrap .i64 ((BO.ev .quo .i64 ((a1 * a2) - (BO.ev .rem .i64 (a1 * a2) 65536)) 65536) + 1))))) ≠ 0 →
     (((bool01 ((IntKind.wrap .i64 (rdZ a3 20)) == 3)) ≠ 0 →
      ((bool01 ((IntKind.wrap .i64 ((IntKind.wrap .i64 (rdZ a3 21)) + 3)) == 5)) : Int) ≠ 0) ∧ ((bool01 ((IntKind.wrap .i64 (rdZ a3 20)) == 3)) = 0 →
      (0 : Int) ≠ 0))) ∧ ((bool01 ((sat32 ((shrZ .i64 (a1 * a2) 16) + (band .i64 (shrZ .i64 (a1 * a2) 15) 1))) == (sat32 (IntKind.wrap .i64 ((BO.ev .quo .i64 ((a1 * a2) - (BO.ev .rem .i64 (a1 * a2) 65536)) 65536) + 1))))) = 0 →
     (0 : Int) ≠ 0))) ∧ ((bool01 (decide (32768 ≤ (BO.ev .rem .i64 (a1 * a2) 65536)))) = 0 →
    (((bool01 ((sat32 ((shrZ .i64 (a1 * a2) 16) + (band .i64 (shrZ .i64 (a1 * a2) 15) 1))) == (sat32 (BO.ev .quo .i64 ((a1 * a2) - (BO.ev .rem .i64 (a1 * a2) 65536)) 65536)))) ≠ 0 →
     (((bool01 ((IntKind.wrap .i64 (rdZ a3 20)) == 3)) ≠ 0 →
      ((bool01 ((IntKind.wrap .i64 ((IntKind.wrap .i64 (rdZ a3 21)) + 3)) == 5)) : Int) ≠ 0) ∧ ((bool01 ((IntKind.wrap .i64 (rdZ a3 20)) == 3)) = 0 →
      (0 : Int) ≠ 0))) ∧ ((bool01 ((sat32 ((shrZ .i64 (a1 * a2) 16) + (band .i64 (shrZ .i64 (a1 * a2) 15) 1))) == (sat32 (BO.ev .quo .i64 ((a1 * a2) - (BO.ev .rem .i64 (a1 * a2) 65536)) 65536)))) = 0 →
     (0 : Int) ≠ 0))))))))

theorem plain (a0 a1 a2 a3 : Int) (ro : List RO) : TT.hdP (cxOf 2 [(21, 21), (-2147483648, 2147483647), (-2147483648, 2147483647)] [⟨[.int .i64], .v 3, .c 43, .c 43, some 0⟩]) isOne tree (envR [a0, a1, a2, a3] ro) = P a0 a1 a2 a3 := by kernel_rfl

theorem holds (a0 a1 a2 : Int) (l0 : 21 ≤ a0) (u0 : a0 ≤ 21) (l1 : -2147483648 ≤ a1) (u1 : a1 ≤ 2147483647) (l2 : -2147483648 ≤ a2) (u2 : a2 ≤ 2147483647) : P a0 a1 a2 (LZ tab0) := by
  have h5 : (IntKind.wrap .i64 ((IntKind.wrap .i64 (rdZ (LZ tab0) 21)) + 3)) = 5 := by rw [rdZ_LZ]; decide
  have r1 : IntKind.wrap .i64 (rdZ (LZ tab0) (20)) = 3 := by rw [rdZ_LZ]; decide
  have hp : -4611686018427387904 ≤ a1 * a2 ∧ a1 * a2 ≤ 4611686018427387904 := by
    have m1 : (a1 * a2).natAbs ≤ 2147483648 * 2147483648 := by rw [Int.natAbs_mul]; exact Nat.mul_le_mul (by omega) (by omega)
    omega
  unfold P
  generalize a1 * a2 = p at hp
  have hm : BO.ev .rem .i64 p 65536 = p.tmod 65536 := rfl
  have e1 : shrZ .i64 p 16 = p / 65536 := shr_eq (k := .i64) (n := 16) (by decide) p
  have e2 : shrZ .i64 p 15 = p / 32768 := shr_eq (k := .i64) (n := 15) (by decide) p
  have e3 : band .i64 (p / 32768) 1 = p / 32768 % 2 := and1 _
  have h3 := mod_pos (x := p) (m := 65536) (by decide)
  have ed : BO.ev .quo .i64 (p - p % 65536) 65536 = p / 65536 := by
    show IntKind.wrap .i64 ((p - p % 65536).tdiv 65536) = _
    rw [exact_div (by decide), wrap_i64 (by omega) (by omega)]
  have ew : IntKind.wrap .i64 (p / 65536 + 1) = p / 65536 + 1 := wrap_i64 (by omega) (by omega)
  simp only [hm, h5, r1, e1, e2, e3]
  by_cases h : p.tmod 65536 < 0
  · rw [if_pos h] at h3
    rw [h3, ed, ew]
    by_cases g : 32768 ≤ p % 65536
    · have b : p / 32768 % 2 = 1 := by omega
      simp [bool01, h, g, b]
    · have b : p / 32768 % 2 = 0 := by omega
      simp [bool01, h, g, b]
  · rw [if_neg h] at h3
    have hn : ¬ p % 65536 < 0 := by omega
    rw [h3, ed, ew]
    by_cases g : 32768 ≤ p % 65536
    · have b : p / 32768 % 2 = 1 := by omega
      simp [bool01, hn, g, b]
    · have b : p / 32768 % 2 = 0 := by omega
      simp [bool01, hn, g, b]

theorem ran : TT.beq (projL pjB (runA [(21, 21), (-2147483648, 2147483647), (-2147483648, 2147483647)] 3 [.int .i64 (.c 21), .int .i32 (.v 1), .int .i32 (.v 2)] ⟨[], []⟩)) tree = true := by kernel_rfl
theorem fineT : (TT.fine (cxOf 2 [(21, 21), (-2147483648, 2147483647), (-2147483648, 2147483647)] [⟨[.int .i64], .v 3, .c 43, .c 43, some 0⟩]) 1000 [] tree && (cxOf 2 [(21, 21), (-2147483648, 2147483647), (-2147483648, 2147483647)] [⟨[.int .i64], .v 3, .c 43, .c 43, some 0⟩]).okB 1000 && SV.vbL 1000 [.int .i64 (.c 21), .int .i32 (.v 1), .int .i32 (.v 2)] && TT.tidy (cxOf 2 [(21, 21), (-2147483648, 2147483647), (-2147483648, 2147483647)] [⟨[.int .i64], .v 3, .c 43, .c 43, some 0⟩]) [] tree) = true := by kernel_rfl
theorem walk (a0 a1 a2 : Int) (w0 : (Lit.int .i64 a0).wf = true) (w1 : (Lit.int .i32 a1).wf = true) (w2 : (Lit.int .i32 a2).wf = true) (w : World) (t0 : Lib.TabIs Tryz.prog w "astrolabe/ops.costs" .i64 tab0) (hc : 21 ≤ a0 ∧ a0 ≤ 21) :
    Calls Tryz.prog 3 #[.int .i64 a0, .int .i32 a1, .int .i32 a2] w fun e w' => e = .returned (.bool true) ∧ Below w.heap.size w w' :=
  lawT_of (runA_ok [(21, 21), (-2147483648, 2147483647), (-2147483648, 2147483647)]) (ρ := envR [a0, a1, a2, LZ tab0] [tabRo 0 .i64 tab0]) (envR_ok (cx := cxOf 2 [(21, 21), (-2147483648, 2147483647), (-2147483648, 2147483647)] [⟨[.int .i64], .v 3, .c 43, .c 43, some 0⟩]) rfl rfl (bnd_cons hc (bnd_cons (wf_bd w1) (bnd_cons (wf_bd w2) (bnd_nil _)))) ⟨⟨rfl, rfl, rfl, rfl, (fun h => by cases h), fun g h => by cases h; rfl⟩, trivial⟩) (f := 3) (args := [.int .i64 (.c 21), .int .i32 (.v 1), .int .i32 (.v 2)]) (t := tree) ran fineT
    (by rw [plain]; exact holds a0 a1 a2 hc.1 hc.2 (wf_bd w1).1 (wf_bd w1).2 (wf_bd w2).1 (wf_bd w2).2) (roOk_of ⟨tabRo_at t0 tabG0 tabW0, trivial⟩) (by obtain rfl : a0 = 21 := (by omega); rfl)

end c21

namespace c22
def tree : TT (List E) :=
(.br (.b .eq .i64 (.v 2) (.c 0))
  (.br (.b .lt .i64 (.v 1) (.c 0))
  (.br (.b .eq .i64 (.w .i64 (.b .padd .i64 (.w .i64 (.f 13 (.v 3) (.c 21) (.c 0))) (.f 3 (.w .u64 (.b .max .i64 (.v 1) (.b .psub .i64 (.c 0) (.v 1)))) (.c 0) (.c 0)))) (.b .padd .i64 (.c 2) (.f 3 (.b .max .i64 (.b .psub .i64 (.c 0) (.v 1)) (.c 0)) (.c 0) (.c 0))))
  (.leaf [(.b .eq .i64 (.w .i64 (.b .padd .i64 (.w .i64 (.f 13 (.v 3) (.c 21) (.c 0))) (.c 3))) (.c 5))])
  (.leaf [(.c 0)]))
  (.br (.b .eq .i64 (.w .i64 (.b .padd .i64 (.w .i64 (.f 13 (.v 3) (.c 21) (.c 0))) (.f 3 (.w .u64 (.b .max .i64 (.v 1) (.b .psub .i64 (.c 0) (.v 1)))) (.c 0) (.c 0)))) (.b .padd .i64 (.c 2) (.f 3 (.b .max .i64 (.v 1) (.c 0)) (.c 0) (.c 0))))
  (.leaf [(.b .eq .i64 (.w .i64 (.b .padd .i64 (.w .i64 (.f 13 (.v 3) (.c 21) (.c 0))) (.c 3))) (.c 5))])
  (.leaf [(.c 0)])))
  (.br (.b .lt .i64 (.v 1) (.c 0))
  (.br (.b .lt .i64 (.v 2) (.c 0))
  (.br (.b .eq .i64 (.b .psub .i64 (.c 0) (.v 2)) (.c 0))
  (.bad 3)
  (.br (.b .ne .i64 (.nt (.b .lt .i64 (.v 1) (.c 0))) (.nt (.b .lt .i64 (.v 2) (.c 0))))
  (.br (.b .eq .i64 (.w .i32 (.b .quo .i64 (.v 1) (.v 2))) (.w .i32 (.b .psub .i64 (.c 0) (.b .quo .i64 (.b .psub .i64 (.c 0) (.v 1)) (.b .psub .i64 (.c 0) (.v 2))))))
  (.br (.b .eq .i64 (.w .i64 (.b .padd .i64 (.w .i64 (.f 13 (.v 3) (.c 21) (.c 0))) (.f 3 (.w .u64 (.b .max .i64 (.v 1) (.b .psub .i64 (.c 0) (.v 1)))) (.c 0) (.c 0)))) (.b .padd .i64 (.c 2) (.f 3 (.b .max .i64 (.b .psub .i64 (.c 0) (.v 1)) (.c 0)) (.c 0) (.c 0))))
  (.leaf [(.b .eq .i64 (.w .i64 (.b .padd .i64 (.w .i64 (.f 13 (.v 3) (.c 21) (.c 0))) (.c 3))) (.c 5))])
  (.leaf [(.c 0)]))
  (.leaf [(.c 0)]))
  (.br (.b .eq .i64 (.w .i32 (.b .quo .i64 (.v 1) (.v 2))) (.w .i32 (.b .quo .i64 (.b .psub .i64 (.c 0) (.v 1)) (.b .psub .i64 (.c 0) (.v 2)))))
  (.br (.b .eq .i64 (.w .i64 (.b .padd .i64 (.w .i64 (.f 13 (.v 3) (.c 21) (.c 0))) (.f 3 (.w .u64 (.b .max .i64 (.v 1) (.b .psub .i64 (.c 0) (.v 1)))) (.c 0) (.c 0)))) (.b .padd .i64 (.c 2) (.f 3 (.b .max .i64 (.b .psub .i64 (.c 0) (.v 1)) (.c 0)) (.c 0) (.c 0))))
  (.leaf [(.b .eq .i64 (.w .i64 (.b .padd .i64 (.w .i64 (.f 13 (.v 3) (.c 21) (.c 0))) (.c 3))) (.c 5))])
  (.leaf [(.c 0)]))
  (.leaf [(.c 0)]))))
  (.br (.b .ne .i64 (.nt (.b .lt .i64 (.v 1) (.c 0))) (.nt (.b .lt .i64 (.v 2) (.c 0))))
  (.br (.b .eq .i64 (.w .i32 (.b .quo .i64 (.v 1) (.v 2))) (.w .i32 (.b .psub .i64 (.c 0) (.b .quo .i64 (.b .psub .i64 (.c 0) (.v 1)) (.v 2)))))
  (.br (.b .eq .i64 (.w .i64 (.b .padd .i64 (.w .i64 (.f 13 (.v 3) (.c 21) (.c 0))) (.f 3 (.w .u64 (.b .max .i64 (.v 1) (.b .psub .i64 (.c 0) (.v 1)))) (.c 0) (.c 0)))) (.b .padd .i64 (.c 2) (.f 3 (.b .max .i64 (.b .psub .i64 (.c 0) (.v 1)) (.c 0)) (.c 0) (.c 0))))
  (.leaf [(.b .eq .i64 (.w .i64 (.b .padd .i64 (.w .i64 (.f 13 (.v 3) (.c 21) (.c 0))) (.c 3))) (.c 5))])
  (.leaf [(.c 0)]))
  (.leaf [(.c 0)]))
  (.br (.b .eq .i64 (.w .i32 (.b .quo .i64 (.v 1) (.v 2))) (.w .i32 (.b .quo .i64 (.b .psub .i64 (.c 0) (.v 1)) (.v 2))))
  (.br (.b .eq .i64 (.w .i64 (.b .padd .i64 (.w .i64 (.f 13 (.v 3) (.c 21) (.c 0))) (.f 3 (.w .u64 (.b .max .i64 (.v 1) (.b .psub .i64 (.c 0) (.v 1)))) (.c 0) (.c 0)))) (.b .padd .i64 (.c 2) (.f 3 (.b .max .i64 (.b .psub .i64 (.c 0) (.v 1)) (.c 0)) (.c 0) (.c 0))))
  (.leaf [(.b .eq .i64 (.w .i64 (.b .padd .i64 (.w .i64 (.f 13 (.v 3) (.c 21) (.c 0))) (.c 3))) (.c 5))])
  (.leaf [(.c 0)]))
  (.leaf [(.c 0)]))))
  (.br (.b .lt .i64 (.v 2) (.c 0))
  (.br (.b .eq .i64 (.b .psub .i64 (.c 0) (.v 2)) (.c 0))
  (.bad 3)
  (.br (.b .ne .i64 (.nt (.b .lt .i64 (.v 1) (.c 0))) (.nt (.b .lt .i64 (.v 2) (.c 0))))
  (.br (.b .eq .i64 (.w .i32 (.b .quo .i64 (.v 1) (.v 2))) (.w .i32 (.b .psub .i64 (.c 0) (.b .quo .i64 (.v 1) (.b .psub .i64 (.c 0) (.v 2))))))
  (.br (.b .eq .i64 (.w .i64 (.b .padd .i64 (.w .i64 (.f 13 (.v 3) (.c 21) (.c 0))) (.f 3 (.w .u64 (.b .max .i64 (.v 1) (.b .psub .i64 (.c 0) (.v 1)))) (.c 0) (.c 0)))) (.b .padd .i64 (.c 2) (.f 3 (.b .max .i64 (.v 1) (.c 0)) (.c 0) (.c 0))))
  (.leaf [(.b .eq .i64 (.w .i64 (.b .padd .i64 (.w .i64 (.f 13 (.v 3) (.c 21) (.c 0))) (.c 3))) (.c 5))])
  (.leaf [(.c 0)]))
  (.leaf [(.c 0)]))
  (.br (.b .eq .i64 (.w .i32 (.b .quo .i64 (.v 1) (.v 2))) (.w .i32 (.b .quo .i64 (.v 1) (.b .psub .i64 (.c 0) (.v 2)))))
  (.br (.b .eq .i64 (.w .i64 (.b .padd .i64 (.w .i64 (.f 13 (.v 3) (.c 21) (.c 0))) (.f 3 (.w .u64 (.b .max .i64 (.v 1) (.b .psub .i64 (.c 0) (.v 1)))) (.c 0) (.c 0)))) (.b .padd .i64 (.c 2) (.f 3 (.b .max .i64 (.v 1) (.c 0)) (.c 0) (.c 0))))
  (.leaf [(.b .eq .i64 (.w .i64 (.b .padd .i64 (.w .i64 (.f 13 (.v 3) (.c 21) (.c 0))) (.c 3))) (.c 5))])
  (.leaf [(.c 0)]))
  (.leaf [(.c 0)]))))
  (.br (.b .ne .i64 (.nt (.b .lt .i64 (.v 1) (.c 0))) (.nt (.b .lt .i64 (.v 2) (.c 0))))
  (.br (.b .eq .i64 (.w .i32 (.b .quo .i64 (.v 1) (.v 2))) (.w .i32 (.b .psub .i64 (.c 0) (.b .quo .i64 (.v 1) (.v 2)))))
  (.br (.b .eq .i64 (.w .i64 (.b .padd .i64 (.w .i64 (.f 13 (.v 3) (.c 21) (.c 0))) (.f 3 (.w .u64 (.b .max .i64 (.v 1) (.b .psub .i64 (.c 0) (.v 1)))) (.c 0) (.c 0)))) (.b .padd .i64 (.c 2) (.f 3 (.b .max .i64 (.v 1) (.c 0)) (.c 0) (.c 0))))
  (.leaf [(.b .eq .i64 (.w .i64 (.b .padd .i64 (.w .i64 (.f 13 (.v 3) (.c 21) (.c 0))) (.c 3))) (.c 5))])
  (.leaf [(.c 0)]))
  (.leaf [(.c 0)]))
  (.br (.b .eq .i64 (.w .i64 (.b .padd .i64 (.w .i64 (.f 13 (.v 3) (.c 21) (.c 0))) (.f 3 (.w .u64 (.b .max .i64 (.v 1) (.b .psub .i64 (.c 0) (.v 1)))) (.c 0) (.c 0)))) (.b .padd .i64 (.c 2) (.f 3 (.b .max .i64 (.v 1) (.c 0)) (.c 0) (.c 0))))
  (.leaf [(.b .eq .i64 (.w .i64 (.b .padd .i64 (.w .i64 (.f 13 (.v 3) (.c 21) (.c 0))) (.c 3))) (.c 5))])
  (.leaf [(.c 0)]))))))

def P (a0 a1 a2 a3 : Int) : Prop :=
 (((bool01 (a2 == 0)) ≠ 0 →
  (((bool01 (decide (a1 < 0))) ≠ 0 →
   (((bool01 ((IntKind.wrap .i64 ((IntKind.wrap .i64 (rdZ a3 21)) + (blen64 (IntKind.wrap .u64 (maxZ a1 (0 - a1)))))) == (2 + (blen64 (maxZ (0 - a1) 0))))) ≠ 0 →
    ((bool01 ((IntKind.wrap .i64 ((IntKind.wrap .i64 (rdZ a3 21)) + 3)) == 5)) : Int) ≠ 0) ∧ ((bool01 ((IntKind.wrap .i64 ((IntKind.wrap .i64 (rdZ a3 21)) + (blen64 (IntKind.wrap .u64 (maxZ a1 (0 - a1)))))) == (2 + (blen64 (maxZ (0 - a1) 0))))) = 0 →
    (0 : Int) ≠ 0))) ∧ ((bool01 (decide (a1 < 0))) = 0 →
   (((bool01 ((IntKind.wrap .i64 ((IntKind.wrap .i64 (rdZ a3 21)) + (blen64 (IntKind.wrap .u64 (maxZ a1 (0 - a1)))))) == (2 + (blen64 (maxZ a1 0))))) ≠ 0 →
    ((bool01 ((IntKind.wrap .i64 ((IntKind.wrap .i64 (rdZ a3 21)) + 3)) == 5)) : Int) ≠ 0) ∧ ((bool01 ((IntKind.wrap .i64 ((IntKind.wrap .i64 (rdZ a3 21)) + (blen64 (IntKind.wrap .u64 (maxZ a1 (0 - a1)))))) == (2 + (blen64 (maxZ a1 0))))) = 0 →
    (0 : Int) ≠ 0))))) ∧ ((bool01 (a2 == 0)) = 0 →
  (((bool01 (decide (a1 < 0))) ≠ 0 →
   (((bool01 (decide (a2 < 0))) ≠ 0 →
    (((bool01 ((0 - a2) == 0)) ≠ 0 →
     False) ∧ ((bool01 ((0 - a2) == 0)) = 0 →
     (((bool01 ((bool01 ((bool01 (decide (a1 < 0))) == 0)) != (bool01 ((bool01 (decide (a2 < 0))) == 0)))) ≠ 0 →
      (((bool01 ((IntKind.wrap .i32 (BO.ev .quo .i64 a1 a2)) == (IntKind.wrap .i32 (0 - (BO.ev .quo .i64 (0 - a1) (0 - a2)))))) ≠ 0 →
       (((bool01 ((IntKind.wrap .i64 ((IntKind.wrap .i64 (rdZ a3 21)) + (blen64 (IntKind.wrap .u64 (maxZ a1 (0 - a1)))))) == (2 + (blen64 (maxZ (0 - a1) 0))))) ≠ 0 →
        ((bool01 ((IntKind.wrap .i64 ((IntKind.wrap .i64 (rdZ a3 21)) + 3)) == 5)) : Int) ≠ 0) ∧ ((bool01 ((IntKind.wrap .i64 ((IntKind.wrap .i64 (rdZ a3 21)) + (blen64 (IntKind.wrap .u64 (maxZ a1 (0 - a1)))))) == (2 + (blen64 (maxZ (0 - a1) 0))))) = 0 →
        (0 : Int) ≠ 0))) ∧ ((bool01 ((IntKind.wrap .i32 (BO.ev .quo .i64 a1 a2)) == (IntKind.wrap .i32 (0 - (BO.ev .quo .i64 (0 - a1) (0 - a2)))))) = 0 →
       (0 : Int) ≠ 0))) ∧ ((bool01 ((bool01 ((bool01 (decide (a1 < 0))) == 0)) != (bool01 ((bool01 (decide (a2 < 0))) == 0)))) = 0 →
      (((bool01 ((IntKind.wrap .i32 (BO.ev .quo .i64 a1 a2)) == (IntKind.wrap .i32 (BO.ev .quo .i64 (0 - a1) (0 - a2))))) ≠ 0 →
       (((bool01 ((IntKind.wrap .i64 ((IntKind.wrap .i64 (rdZ a3 21)) + (blen64 (IntKind.wrap .u64 (maxZ a1 (0 - a1)))))) == (2 + (blen64 (maxZ (0 - a1) 0))))) ≠ 0 →
        ((bool01 ((IntKind.wrap .i64 ((IntKind.wrap .i64 (rdZ a3 21)) + 3)) == 5)) : Int) ≠ 0) ∧ ((bool01 ((IntKind.wrap .i64 ((IntKind.wrap .i64 (rdZ a3 21)) + (blen64 (IntKind.wrap .u64 (maxZ a1 (0 - a1)))))) == (2 + (blen64 (maxZ (0 - a1) 0))))) = 0 →
        (0 : Int) ≠ 0))) ∧ ((bool01 ((IntKind.wrap .i32 (BO.ev .quo .i64 a1 a2)) == (IntKind.wrap .i32 (BO.ev .quo .i64 (0 - a1) (0 - a2))))) = 0 →
       (0 : Int) ≠ 0))))))) ∧ ((bool01 (decide (a2 < 0))) = 0 →
    (((bool01 ((bool01 ((bool01 (decide (a1 < 0))) == 0)) != (bool01 ((bool01 (decide (a2 < 0))) == 0)))) ≠ 0 →
     (((bool01 ((IntKind.wrap .i32 (BO.ev .quo .i64 a1 a2)) == (IntKind.wrap .i32 (0 - (BO.ev .quo .i64 (0 - a1) a2))))) ≠ 0 →
      (((bool01 ((IntKind.wrap .i64 ((IntKind.wrap .i64 (rdZ a3 21)) + (blen64 (IntKind.wrap .u64 (maxZ a1 (0 - a1)))))) == (2 + (blen64 (maxZ (0 - a1) 0))))) ≠ 0 →
       ((bool01 ((IntKind.wrap .i64 ((IntKind.wrap .i64 (rdZ a3 21)) + 3)) == 5)) : Int) ≠ 0) ∧ ((bool01 ((IntKind.wrap .i64 ((IntKind.wrap .i64 (rdZ a3 21)) + (blen64 (IntKind.wrap .u64 (maxZ a1 (0 - a1)))))) == (2 + (blen64 (maxZ (0 - a1) 0))))) = 0 →
       (0 : Int) ≠ 0))) ∧ ((bool01 ((IntKind.wrap .i32 (BO.ev .quo .i64 a1 a2)) == (IntKind.wrap .i32 (0 - (BO.ev .quo .i64 (0 - a1) a2))))) = 0 →
      (0 : Int) ≠ 0))) ∧ ((bool01 ((bool01 ((bool01 (decide (a1 < 0))) == 0)) != (bool01 ((bool01 (decide (a2 < 0))) == 0)))) = 0 →
     (((bool01 ((IntKind.wrap .i32 (BO.ev .quo .i64 a1 a2)) == (IntKind.wrap .i32 (BO.ev .quo .i64 (0 - a1) a2)))) ≠ 0 →
      (((bool01 ((IntKind.wrap .i64 ((IntKind.wrap .i64 (rdZ a3 21)) + (blen64 (IntKind.wrap .u64 (maxZ a1 (0 - a1)))))) == (2 + (blen64 (maxZ (0 - a1) 0))))) ≠ 0 →
       ((bool01 ((IntKind.wrap .i64 ((IntKind.wrap .i64 (rdZ a3 21)) + 3)) == 5)) : Int) ≠ 0) ∧ ((bool01 ((IntKind.wrap .i64 ((IntKind.wrap .i64 (rdZ a3 21)) + (blen64 (IntKind.wrap .u64 (maxZ a1 (0 - a1)))))) == (2 + (blen64 (maxZ (0 - a1) 0))))) = 0 →
       (0 : Int) ≠ 0))) ∧ ((bool01 ((IntKind.wrap .i32 (BO.ev .quo .i64 a1 a2)) == (IntKind.wrap .i32 (BO.ev .quo .i64 (0 - a1) a2)))) = 0 →
      (0 : Int) ≠ 0))))))) ∧ ((bool01 (decide (a1 < 0))) = 0 →
   (((bool01 (decide (a2 < 0))) ≠ 0 →
    (((bool01 ((0 - a2) == 0)) ≠ 0 →
     False) ∧ ((bool01 ((0 - a2) == 0)) = 0 →
     (((bool01 ((bool01 ((bool01 (decide (a1 < 0))) == 0)) != (bool01 ((bool01 (decide (a2 < 0))) == 0)))) ≠ 0 →
      (((bool01 ((IntKind.wrap .i32 (BO.ev .quo .i64 a1 a2)) == (IntKind.wrap .i32 (0 - (BO.ev .quo .i64 a1 (0 - a2)))))) ≠ 0 →
       (((bool01 ((IntKind.wrap .i64 ((IntKind.wrap .i64 (rdZ a3 21)) + (blen64 (IntKind.wrap .u64 (maxZ a1 (0 - a1)))))) == (2 + (blen64 (maxZ a1 0))))) ≠ 0 →
        ((bool01 ((IntKind.wrap .i64 ((IntKind.wrap .i64 (rdZ a3 21)) + 3)) == 5)) : Int) ≠ 0) ∧ ((bool01 ((IntKind.wrap .i64 ((IntKind.wrap .i64 (rdZ a3 21)) + (blen64 (IntKind.wrap .u64 (maxZ a1 (0 - a1)))))) == (2 + (blen64 (maxZ a1 0))))) = 0 →
        (0 : Int) ≠ 0))) ∧ ((bool01 ((IntKind.wrap .i32 (BO.ev .quo .i64 a1 a2)) == (IntKind.wrap .i32 (0 - (BO.ev .quo .i64 a1 (0 - a2)))))) = 0 →
       (0 : Int) ≠ 0))) ∧ ((bool01 ((bool01 ((bool01 (decide (a1 < 0))) == 0)) != (bool01 ((bool01 (decide (a2 < 0))) == 0)))) = 0 →
      (((bool01 ((IntKind.wrap .i32 (BO.ev .quo .i64 a1 a2)) == (IntKind.wrap .i32 (BO.ev .quo .i64 a1 (0 - a2))))) ≠ 0 →
       (((bool01 ((IntKind.wrap .i64 ((IntKind.wrap .i64 (rdZ a3 21)) + (blen64 (IntKind.wrap .u64 (maxZ a1 (0 - a1)))))) == (2 + (blen64 (maxZ a1 0))))) ≠ 0 →
        ((bool01 ((IntKind.wrap .i64 ((IntKind.wrap .i64 (rdZ a3 21)) + 3)) == 5)) : Int) ≠ 0) ∧ ((bool01 ((IntKind.wrap .i64 ((IntKind.wrap .i64 (rdZ a3 21)) + (blen64 (IntKind.wrap .u64 (maxZ a1 (0 - a1)))))) == (2 + (blen64 (maxZ a1 0))))) = 0 →
        (0 : Int) ≠ 0))) ∧ ((bool01 ((IntKind.wrap .i32 (BO.ev .quo .i64 a1 a2)) == (IntKind.wrap .i32 (BO.ev .quo .i64 a1 (0 - a2))))) = 0 →
       (0 : Int) ≠ 0))))))) ∧ ((bool01 (decide (a2 < 0))) = 0 →
    (((bool01 ((bool01 ((bool01 (decide (a1 < 0))) == 0)) != (bool01 ((bool01 (decide (a2 < 0))) == 0)))) ≠ 0 →
     (((bool01 ((IntKind.wrap .i32 (BO.ev .quo .i64 a1 a2)) == (IntKind.wrap .i32 (0 - (BO.ev .quo .i64 a1 a2))))) ≠ 0 →
      (((bool01 ((IntKind.wrap .i64 ((IntKind.wrap .i64 (rdZ a3 21)) + (blen64 (IntKind.wrap .u64 (maxZ a1 (0 - a1)))))) == (2 + (blen64 (maxZ a1 0))))) ≠ 0 →
       ((bool01 ((IntKind.wrap .i64 ((IntKind.wrap .i64 (rdZ a3 21)) + 3)) == 5)) : Int) ≠ 0) ∧ ((bool01 ((IntKind.wrap .i64 ((IntKind.wrap .i64 (rdZ a3 21)) + (blen64 (IntKind.wrap .u64 (maxZ a1 (0 - a1)))))) == (2 + (blen64 (maxZ a1 0))))) = 0 →
       (0 : Int) ≠ 0))) ∧ ((bool01 ((IntKind.wrap .i32 (BO.ev .quo .i64 a1 a2)) == (IntKind.wrap .i32 (0 - (BO.ev .quo .i64 a1 a2))))) = 0 →
      (0 : Int) ≠ 0))) ∧ ((bool01 ((bool01 ((bool01 (decide (a1 < 0))) == 0)) != (bool01 ((bool01 (decide (a2 < 0))) == 0)))) = 0 →
     (((bool01 ((IntKind.wrap .i64 ((IntKind.wrap .i64 (rdZ a3 21)) + (blen64 (IntKind.wrap .u64 (maxZ a1 (0 - a1)))))) == (2 + (blen64 (maxZ a1 0))))) ≠ 0 →
      ((bool01 ((IntKind.wrap .i64 ((IntKind.wrap .i64 (rdZ a3 21)) + 3)) == 5)) : Int) ≠ 0) ∧ ((bool01 ((IntKind.wrap .i64 ((IntKind.wrap .i64 (rdZ a3 21)) + (blen64 (IntKind.wrap .u64 (maxZ a1 (0 - a1)))))) == (2 + (blen64 (maxZ a1 0))))) = 0 →
      (0 : Int) ≠ 0))))))))))

theorem plain (a0 a1 a2 a3 : Int) (ro : List RO) : TT.hdP (cxOf 2 [(22, 22), (-2147483648, 2147483647), (-2147483648, 2147483647)] [⟨[.int .i64], .v 3, .c 43, .c 43, some 0⟩]) isOne tree (envR [a0, a1, a2, a3] ro) = P a0 a1 a2 a3 := by kernel_rfl

theorem wrapu {x : Int} (h1 : 0 ≤ x) (h2 : x ≤ 18446744073709551615) : IntKind.wrap .u64 x = x := wrap_in _ _ (by simp [klo]; omega) (by simp [khi]; omega)
theorem cneg {a : Int} (l : -2147483648 ≤ a) (h : a < 0) : IntKind.wrap .i64 (2 + blen64 (IntKind.wrap .u64 (maxZ a (0 - a)))) = 2 + blen64 (maxZ (0 - a) 0) := by
  have e1 : maxZ a (0 - a) = 0 - a := by unfold maxZ; split <;> omega
  have e2 : maxZ (0 - a) 0 = 0 - a := by unfold maxZ; split <;> omega
  have hb := blen64_bd (0 - a)
  rw [e1, e2, wrapu (by omega) (by omega), wrap_i64 (by omega) (by omega)]
theorem cpos {a : Int} (u : a ≤ 2147483647) (h : ¬ a < 0) : IntKind.wrap .i64 (2 + blen64 (IntKind.wrap .u64 (maxZ a (0 - a)))) = 2 + blen64 (maxZ a 0) := by
  have e1 : maxZ a (0 - a) = a := by unfold maxZ; split <;> omega
  have e2 : maxZ a 0 = a := by unfold maxZ; split <;> omega
  have hb := blen64_bd a
  rw [e1, e2, wrapu (by omega) (by omega), wrap_i64 (by omega) (by omega)]
theorem quo_eq {x y : Int} (h1 : -2147483648 ≤ x) (h2 : x ≤ 2147483648) : BO.ev .quo .i64 x y = x.tdiv y ∧ -2147483648 ≤ x.tdiv y ∧ x.tdiv y ≤ 2147483648 := by
  have := Int.natAbs_tdiv_le_natAbs x y
  exact ⟨wrap_i64 (by omega) (by omega), by omega, by omega⟩
theorem holds (a0 a1 a2 : Int) (l0 : 22 ≤ a0) (u0 : a0 ≤ 22) (l1 : -2147483648 ≤ a1) (u1 : a1 ≤ 2147483647) (l2 : -2147483648 ≤ a2) (u2 : a2 ≤ 2147483647) : P a0 a1 a2 (LZ tab0) := by
  have h5 : (IntKind.wrap .i64 ((IntKind.wrap .i64 (rdZ (LZ tab0) 21)) + 3)) = 5 := by rw [rdZ_LZ]; decide
  have r1 : IntKind.wrap .i64 (rdZ (LZ tab0) (21)) = 2 := by rw [rdZ_LZ]; decide
  obtain ⟨q0, b1, b2⟩ := quo_eq (x := a1) (y := a2) l1 (by omega)
  have q1 : BO.ev .quo .i64 (0 - a1) (0 - a2) = a1.tdiv a2 := by
    rw [(quo_eq (x := 0 - a1) (y := 0 - a2) (by omega) (by omega)).1, Int.zero_sub, Int.zero_sub, Int.neg_tdiv, Int.tdiv_neg, Int.neg_neg]
  have q2 : 0 - BO.ev .quo .i64 (0 - a1) a2 = a1.tdiv a2 := by
    rw [(quo_eq (x := 0 - a1) (y := a2) (by omega) (by omega)).1, Int.zero_sub a1, Int.neg_tdiv]; omega
  have q3 : 0 - BO.ev .quo .i64 a1 (0 - a2) = a1.tdiv a2 := by
    rw [(quo_eq (x := a1) (y := 0 - a2) (by omega) (by omega)).1, Int.zero_sub a2, Int.tdiv_neg]; omega
  have w := wrap_i64 (x := a1.tdiv a2) (by omega) (by omega)
  unfold P
  rw [h5, r1]
  simp only [q0, q1, q2, q3, w]
  by_cases s1 : a1 < 0
  · rw [cneg l1 s1]
    by_cases z : a2 = 0
    · simp [bool01, s1, z]
    · by_cases s2 : a2 < 0
      · simp [bool01, s1, z, s2, show ¬ (0 - a2 = 0) by omega]
      · simp [bool01, s1, z, s2]
  · rw [cpos u1 s1]
    by_cases z : a2 = 0
    · simp [bool01, s1, z]
    · by_cases s2 : a2 < 0
      · simp [bool01, s1, z, s2, show ¬ (0 - a2 = 0) by omega]
      · simp [bool01, s1, z, s2]

theorem ran : TT.beq (projL pjB (runA [(22, 22), (-2147483648, 2147483647), (-2147483648, 2147483647)] 3 [.int .i64 (.c 22), .int .i32 (.v 1), .int .i32 (.v 2)] ⟨[], []⟩)) tree = true := by kernel_rfl
theorem fineT : (TT.fine (cxOf 2 [(22, 22), (-2147483648, 2147483647), (-2147483648, 2147483647)] [⟨[.int .i64], .v 3, .c 43, .c 43, some 0⟩]) 1000 [] tree && (cxOf 2 [(22, 22), (-2147483648, 2147483647), (-2147483648, 2147483647)] [⟨[.int .i64], .v 3, .c 43, .c 43, some 0⟩]).okB 1000 && SV.vbL 1000 [.int .i64 (.c 22), .int .i32 (.v 1), .int .i32 (.v 2)] && TT.tidy (cxOf 2 [(22, 22), (-2147483648, 2147483647), (-2147483648, 2147483647)] [⟨[.int .i64], .v 3, .c 43, .c 43, some 0⟩]) [] tree) = true := by kernel_rfl
theorem walk (a0 a1 a2 : Int) (w0 : (Lit.int .i64 a0).wf = true) (w1 : (Lit.int .i32 a1).wf = true) (w2 : (Lit.int .i32 a2).wf = true) (w : World) (t0 : Lib.TabIs Tryz.prog w "astrolabe/ops.costs" .i64 tab0) (hc : 22 ≤ a0 ∧ a0 ≤ 22) :
    Calls Tryz.prog 3 #[.int .i64 a0, .int .i32 a1, .int .i32 a2] w fun e w' => e = .returned (.bool true) ∧ Below w.heap.size w w' :=
  lawT_of (runA_ok [(22, 22), (-2147483648, 2147483647), (-2147483648, 2147483647)]) (ρ := envR [a0, a1, a2, LZ tab0] [tabRo 0 .i64 tab0]) (envR_ok (cx := cxOf 2 [(22, 22), (-2147483648, 2147483647), (-2147483648, 2147483647)] [⟨[.int .i64], .v 3, .c 43, .c 43, some 0⟩]) rfl rfl (bnd_cons hc (bnd_cons (wf_bd w1) (bnd_cons (wf_bd w2) (bnd_nil _)))) ⟨⟨rfl, rfl, rfl, rfl, (fun h => by cases h), fun g h => by cases h; rfl⟩, trivial⟩) (f := 3) (args := [.int .i64 (.c 22), .int .i32 (.v 1), .int .i32 (.v 2)]) (t := tree) ran fineT
    (by rw [plain]; exact holds a0 a1 a2 hc.1 hc.2 (wf_bd w1).1 (wf_bd w1).2 (wf_bd w2).1 (wf_bd w2).2) (roOk_of ⟨tabRo_at t0 tabG0 tabW0, trivial⟩) (by obtain rfl : a0 = 22 := (by omega); rfl)

end c22

namespace c23
def tree : TT (List E) :=
(.br (.b .eq .i64 (.v 2) (.c 0))
  (.br (.b .lt .i64 (.v 1) (.c 0))
  (.br (.b .eq .i64 (.w .i64 (.b .padd .i64 (.w .i64 (.f 13 (.v 3) (.c 22) (.c 0))) (.f 3 (.w .u64 (.b .max .i64 (.v 1) (.b .psub .i64 (.c 0) (.v 1)))) (.c 0) (.c 0)))) (.b .padd .i64 (.c 2) (.f 3 (.b .max .i64 (.b .psub .i64 (.c 0) (.v 1)) (.c 0)) (.c 0) (.c 0))))
  (.leaf [(.b .eq .i64 (.w .i64 (.b .padd .i64 (.w .i64 (.f 13 (.v 3) (.c 21) (.c 0))) (.c 3))) (.c 5))])
  (.leaf [(.c 0)]))
  (.br (.b .eq .i64 (.w .i64 (.b .padd .i64 (.w .i64 (.f 13 (.v 3) (.c 22) (.c 0))) (.f 3 (.w .u64 (.b .max .i64 (.v 1) (.b .psub .i64 (.c 0) (.v 1)))) (.c 0) (.c 0)))) (.b .padd .i64 (.c 2) (.f 3 (.b .max .i64 (.v 1) (.c 0)) (.c 0) (.c 0))))
  (.leaf [(.b .eq .i64 (.w .i64 (.b .padd .i64 (.w .i64 (.f 13 (.v 3) (.c 21) (.c 0))) (.c 3))) (.c 5))])
  (.leaf [(.c 0)])))
  (.br (.b .lt .i64 (.v 1) (.c 0))
  (.br (.b .lt .i64 (.v 2) (.c 0))
  (.br (.b .eq .i64 (.b .psub .i64 (.c 0) (.v 2)) (.c 0))
  (.bad 3)
  (.br (.b .ne .i64 (.nt (.b .lt .i64 (.v 1) (.c 0))) (.nt (.b .lt .i64 (.v 2) (.c 0))))
  (.br (.b .eq .i64 (.w .i32 (.b .psub .i64 (.v 1) (.w .i64 (.b .pmul .i64 (.b .quo .i64 (.v 1) (.v 2)) (.v 2))))) (.w .i32 (.b .psub .i64 (.v 1) (.w .i64 (.b .pmul .i64 (.w .i64 (.b .psub .i64 (.c 0) (.b .quo .i64 (.b .psub .i64 (.c 0) (.v 1)) (.b .psub .i64 (.c 0) (.v 2))))) (.v 2))))))
  (.br (.b .eq .i64 (.w .i64 (.b .padd .i64 (.w .i64 (.f 13 (.v 3) (.c 22) (.c 0))) (.f 3 (.w .u64 (.b .max .i64 (.v 1) (.b .psub .i64 (.c 0) (.v 1)))) (.c 0) (.c 0)))) (.b .padd .i64 (.c 2) (.f 3 (.b .max .i64 (.b .psub .i64 (.c 0) (.v 1)) (.c 0)) (.c 0) (.c 0))))
  (.leaf [(.b .eq .i64 (.w .i64 (.b .padd .i64 (.w .i64 (.f 13 (.v 3) (.c 21) (.c 0))) (.c 3))) (.c 5))])
  (.leaf [(.c 0)]))
  (.leaf [(.c 0)]))
  (.br (.b .eq .i64 (.w .i32 (.b .psub .i64 (.v 1) (.w .i64 (.b .pmul .i64 (.b .quo .i64 (.v 1) (.v 2)) (.v 2))))) (.w .i32 (.b .psub .i64 (.v 1) (.w .i64 (.b .pmul .i64 (.b .quo .i64 (.b .psub .i64 (.c 0) (.v 1)) (.b .psub .i64 (.c 0) (.v 2))) (.v 2))))))
  (.br (.b .eq .i64 (.w .i64 (.b .padd .i64 (.w .i64 (.f 13 (.v 3) (.c 22) (.c 0))) (.f 3 (.w .u64 (.b .max .i64 (.v 1) (.b .psub .i64 (.c 0) (.v 1)))) (.c 0) (.c 0)))) (.b .padd .i64 (.c 2) (.f 3 (.b .max .i64 (.b .psub .i64 (.c 0) (.v 1)) (.c 0)) (.c 0) (.c 0))))
  (.leaf [(.b .eq .i64 (.w .i64 (.b .padd .i64 (.w .i64 (.f 13 (.v 3) (.c 21) (.c 0))) (.c 3))) (.c 5))])
  (.leaf [(.c 0)]))
  (.leaf [(.c 0)]))))
  (.br (.b .ne .i64 (.nt (.b .lt .i64 (.v 1) (.c 0))) (.nt (.b .lt .i64 (.v 2) (.c 0))))
  (.br (.b .eq .i64 (.w .i32 (.b .psub .i64 (.v 1) (.w .i64 (.b .pmul .i64 (.b .quo .i64 (.v 1) (.v 2)) (.v 2))))) (.w .i32 (.b .psub .i64 (.v 1) (.w .i64 (.b .pmul .i64 (.w .i64 (.b .psub .i64 (.c 0) (.b .quo .i64 (.b .psub .i64 (.c 0) (.v 1)) (.v 2)))) (.v 2))))))
  (.br (.b .eq .i64 (.w .i64 (.b .padd .i64 (.w .i64 (.f 13 (.v 3) (.c 22) (.c 0))) (.f 3 (.w .u64 (.b .max .i64 (.v 1) (.b .psub .i64 (.c 0) (.v 1)))) (.c 0) (.c 0)))) (.b .padd .i64 (.c 2) (.f 3 (.b .max .i64 (.b .psub .i64 (.c 0) (.v 1)) (.c 0)) (.c 0) (.c 0))))
  (.leaf [(.b .eq .i64 (.w .i64 (.b .padd .i64 (.w .i64 (.f 13 (.v 3) (.c 21) (.c 0))) (.c 3))) (.c 5))])
  (.leaf [(.c 0)]))
  (.leaf [(.c 0)]))
  (.br (.b .eq .i64 (.w .i32 (.b .psub .i64 (.v 1) (.w .i64 (.b .pmul .i64 (.b .quo .i64 (.v 1) (.v 2)) (.v 2))))) (.w .i32 (.b .psub .i64 (.v 1) (.w .i64 (.b .pmul .i64 (.b .quo .i64 (.b .psub .i64 (.c 0) (.v 1)) (.v 2)) (.v 2))))))
  (.br (.b .eq .i64 (.w .i64 (.b .padd .i64 (.w .i64 (.f 13 (.v 3) (.c 22) (.c 0))) (.f 3 (.w .u64 (.b .max .i64 (.v 1) (.b .psub .i64 (.c 0) (.v 1)))) (.c 0) (.c 0)))) (.b .padd .i64 (.c 2) (.f 3 (.b .max .i64 (.b .psub .i64 (.c 0) (.v 1)) (.c 0)) (.c 0) (.c 0))))
  (.leaf [(.b .eq .i64 (.w .i64 (.b .padd .i64 (.w .i64 (.f 13 (.v 3) (.c 21) (.c 0))) (.c 3))) (.c 5))])
  (.leaf [(.c 0)]))
  (.leaf [(.c 0)]))))
  (.br (.b .lt .i64 (.v 2) (.c 0))
  (.br (.b .eq .i64 (.b .psub .i64 (.c 0) (.v 2)) (.c 0))
  (.bad 3)
  (.br (.b .ne .i64 (.nt (.b .lt .i64 (.v 1) (.c 0))) (.nt (.b .lt .i64 (.v 2) (.c 0))))
  (.br (.b .eq .i64 (.w .i32 (.b .psub .i64 (.v 1) (.w .i64 (.b .pmul .i64 (.b .quo .i64 (.v 1) (.v 2)) (.v 2))))) (.w .i32 (.b .psub .i64 (.v 1) (.w .i64 (.b .pmul .i64 (.w .i64 (.b .psub .i64 (.c 0) (.b .quo .i64 (.v 1) (.b .psub .i64 (.c 0) (.v 2))))) (.v 2))))))
  (.br (.b .eq .i64 (.w .i64 (.b .padd .i64 (.w .i64 (.f 13 (.v 3) (.c 22) (.c 0))) (.f 3 (.w .u64 (.b .max .i64 (.v 1) (.b .psub .i64 (.c 0) (.v 1)))) (.c 0) (.c 0)))) (.b .padd .i64 (.c 2) (.f 3 (.b .max .i64 (.v 1) (.c 0)) (.c 0) (.c 0))))
  (.leaf [(.b .eq .i64 (.w .i64 (.b .padd .i64 (.w .i64 (.f 13 (.v 3) (.c 21) (.c 0))) (.c 3))) (.c 5))])
  (.leaf [(.c 0)]))
  (.leaf [(.c 0)]))
  (.br (.b .eq .i64 (.w .i32 (.b .psub .i64 (.v 1) (.w .i64 (.b .pmul .i64 (.b .quo .i64 (.v 1) (.v 2)) (.v 2))))) (.w .i32 (.b .psub .i64 (.v 1) (.w .i64 (.b .pmul .i64 (.b .quo .i64 (.v 1) (.b .psub .i64 (.c 0) (.v 2))) (.v 2))))))
  (.br (.b .eq .i64 (.w .i64 (.b .padd .i64 (.w .i64 (.f 13 (.v 3) (.c 22) (.c 0))) (.f 3 (.w .u64 (.b .max .i64 (.v 1) (.b .psub .i64 (.c 0) (.v 1)))) (.c 0) (.c 0)))) (.b .padd .i64 (.c 2) (.f 3 (.b .max .i64 (.v 1) (.c 0)) (.c 0) (.c 0))))
  (.leaf [(.b .eq .i64 (.w .i64 (.b .padd .i64 (.w .i64 (.f 13 (.v 3) (.c 21) (.c 0))) (.c 3))) (.c 5))])
  (.leaf [(.c 0)]))
  (.leaf [(.c 0)]))))
  (.br (.b .ne .i64 (.nt (.b .lt .i64 (.v 1) (.c 0))) (.nt (.b .lt .i64 (.v 2) (.c 0))))
  (.br (.b .eq .i64 (.w .i32 (.b .psub .i64 (.v 1) (.w .i64 (.b .pmul .i64 (.b .quo .i64 (.v 1) (.v 2)) (.v 2))))) (.w .i32 (.b .psub .i64 (.v 1) (.w .i64 (.b .pmul .i64 (.w .i64 (.b .psub .i64 (.c 0) (.b .quo .i64 (.v 1) (.v 2)))) (.v 2))))))
  (.br (.b .eq .i64 (.w .i64 (.b .padd .i64 (.w .i64 (.f 13 (.v 3) (.c 22) (.c 0))) (.f 3 (.w .u64 (.b .max .i64 (.v 1) (.b .psub .i64 (.c 0) (.v 1)))) (.c 0) (.c 0)))) (.b .padd .i64 (.c 2) (.f 3 (.b .max .i64 (.v 1) (.c 0)) (.c 0) (.c 0))))
  (.leaf [(.b .eq .i64 (.w .i64 (.b .padd .i64 (.w .i64 (.f 13 (.v 3) (.c 21) (.c 0))) (.c 3))) (.c 5))])
  (.leaf [(.c 0)]))
  (.leaf [(.c 0)]))
  (.br (.b .eq .i64 (.w .i64 (.b .padd .i64 (.w .i64 (.f 13 (.v 3) (.c 22) (.c 0))) (.f 3 (.w .u64 (.b .max .i64 (.v 1) (.b .psub .i64 (.c 0) (.v 1)))) (.c 0) (.c 0)))) (.b .padd .i64 (.c 2) (.f 3 (.b .max .i64 (.v 1) (.c 0)) (.c 0) (.c 0))))
  (.leaf [(.b .eq .i64 (.w .i64 (.b .padd .i64 (.w .i64 (.f 13 (.v 3) (.c 21) (.c 0))) (.c 3))) (.c 5))])
  (.leaf [(.c 0)]))))))

def P (a0 a1 a2 a3 : Int) : Prop :=
 (((bool01 (a2 == 0)) ≠ 0 →
  (((bool01 (decide (a1 < 0))) ≠ 0 →
   (((bool01 ((IntKind.wrap .i64 ((IntKind.wrap .i64 (rdZ a3 22)) + (blen64 (IntKind.wrap .u64 (maxZ a1 (0 - a1)))))) == (2 + (blen64 (maxZ (0 - a1) 0))))) ≠ 0 →
    ((bool01 ((IntKind.wrap .i64 ((IntKind.wrap .i64 (rdZ a3 21)) + 3)) == 5)) : Int) ≠ 0) ∧ ((bool01 ((IntKind.wrap .i64 ((IntKind.wrap .i64 (rdZ a3 22)) + (blen64 (IntKind.wrap .u64 (maxZ a1 (0 - a1)))))) == (2 + (blen64 (maxZ (0 - a1) 0))))) = 0 →
    (0 : Int) ≠ 0))) ∧ ((bool01 (decide (a1 < 0))) = 0 →
   (((bool01 ((IntKind.wrap .i64 ((IntKind.wrap .i64 (rdZ a3 22)) + (blen64 (IntKind.wrap .u64 (maxZ a1 (0 - a1)))))) == (2 + (blen64 (maxZ a1 0))))) ≠ 0 →
    ((bool01 ((IntKind.wrap .i64 ((IntKind.wrap .i64 (rdZ a3 21)) + 3)) == 5)) : Int) ≠ 0) ∧ ((bool01 ((IntKind.wrap .i64 ((IntKind.wrap .i64 (rdZ a3 22)) + (blen64 (IntKind.wrap .u64 (maxZ a1 (0 - a1)))))) == (2 + (blen64 (maxZ a1 0))))) = 0 →
    (0 : Int) ≠ 0))))) ∧ ((bool01 (a2 == 0)) = 0 →
  (((bool01 (decide (a1 < 0))) ≠ 0 →
   (((bool01 (decide (a2 < 0))) ≠ 0 →
    (((bool01 ((0 - a2) == 0)) ≠ 0 →
     False) ∧ ((bool01 ((0 - a2) == 0)) = 0 →
     (((bool01 ((bool01 ((bool01 (decide (a1 < 0))) == 0)) != (bool01 ((bool01 (decide (a2 < 0))) == 0)))) ≠ 0 →
      (((bool01 ((IntKind.wrap .i32 (a1 - (IntKind.wrap .i64 ((BO.ev .quo .i64 a1 a2) * a2)))) == (IntKind.wrap .i32 (a1 - (IntKind.wrap .i64 ((IntKind.wrap .i64 (0 - (BO.ev .quo .i64 (0 - a1) (0 - a2)))) * a2)))))) ≠ 0 →
       (((bool01 ((IntKind.wrap .i64 ((IntKind.wrap .i64 (rdZ a3 22)) + (blen64 (IntKind.wrap .u64 (maxZ a1 (0 - a1)))))) == (2 + (blen64 (maxZ (0 - a1) 0))))) ≠ 0 →
        ((bool01 ((IntKind.wrap .i64 ((IntKind.wrap .i64 (rdZ a3 21)) + 3)) == 5)) : Int) ≠ 0) ∧ ((bool01 ((IntKind.wrap .i64 ((IntKind.wrap .i64 (rdZ a3 22)) + (blen64 (IntKind.wrap .u64 (maxZ a1 (0 - a1)))))) == (2 + (blen64 (maxZ (0 - a1) 0))))) = 0 →
        (0 : Int) ≠ 0))) ∧ ((bool01 ((IntKind.wrap .i32 (a1 - (IntKind.wrap .i64 ((BO.ev .quo .i64 a1 a2) * a2)))) == (IntKind.wrap .i32 (a1 - (IntKind.wrap .i64 ((IntKind.wrap .i64 (0 - (BO.ev .quo .i64 (0 - a1) (0 - a2)))) * a2)))))) = 0 →
       (0 : Int) ≠ 0))) ∧ ((bool01 ((bool01 ((bool01 (decide (a1 < 0))) == 0)) != (bool01 ((bool01 (decide (a2 < 0))) == 0)))) = 0 →
      (((bool01 ((IntKind.wrap .i32 (a1 - (IntKind.wrap .i64 ((BO.ev .quo .i64 a1 a2) * a2)))) == (IntKind.wrap .i32 (a1 - (IntKind.wrap .i64 ((BO.ev .quo .i64 (0 - a1) (0 - a2)) * a2)))))) ≠ 0 →
       (((bool01 ((IntKind.wrap .i64 ((IntKind.wrap .i64 (rdZ a3 22)) + (blen64 (IntKind.wrap .u64 (maxZ a1 (0 - a1)))))) == (2 + (blen64 (maxZ (0 - a1) 0))))) ≠ 0 →
        ((bool01 ((IntKind.wrap .i64 ((IntKind.wrap .i64 (rdZ a3 21)) + 3)) == 5)) : Int) ≠ 0) ∧ ((bool01 ((IntKind.wrap .i64 ((IntKind.wrap .i64 (rdZ a3 22)) + (blen64 (IntKind.wrap .u64 (maxZ a1 (0 - a1)))))) == (2 + (blen64 (maxZ (0 - a1) 0))))) = 0 →
        (0 : Int) ≠ 0))) ∧ ((bool01 ((IntKind.wrap .i32 (a1 - (IntKind.wrap .i64 ((BO.ev .quo .i64 a1 a2) * a2)))) == (IntKind.wrap .i32 (a1 - (IntKind.wrap .i64 ((BO.ev .quo .i64 (0 - a1) (0 - a2)) * a2)))))) = 0 →
       (0 : Int) ≠ 0))))))) ∧ ((bool01 (decide (a2 < 0))) = 0 →
    (((bool01 ((bool01 ((bool01 (decide (a1 < 0))) == 0)) != (bool01 ((bool01 (decide (a2 < 0))) == 0)))) ≠ 0 →
     (((bool01 ((IntKind.wrap .i32 (a1 - (IntKind.wrap .i64 ((BO.ev .quo .i64 a1 a2) * a2)))) == (IntKind.wrap .i32 (a1 - (IntKind.wrap .i64 ((IntKind.wrap .i64 (0 - (BO.ev .quo .i64 (0 - a1) a2))) * a2)))))) ≠ 0 →
      (((bool01 ((IntKind.wrap .i64 ((IntKind.wrap .i64 (rdZ a3 22)) + (blen64 (IntKind.wrap .u64 (maxZ a1 (0 - a1)))))) == (2 + (blen64 (maxZ (0 - a1) 0))))) ≠ 0 →
       ((bool01 ((IntKind.wrap .i64 ((IntKind.wrap .i64 (rdZ a3 21)) + 3)) == 5)) : Int) ≠ 0) ∧ ((bool01 ((IntKind.wrap .i64 ((IntKind.wrap .i64 (rdZ a3 22)) + (blen64 (IntKind.wrap .u64 (maxZ a1 (0 - a1)))))) == (2 + (blen64 (maxZ (0 - a1) 0))))) = 0 →
       (0 : Int) ≠ 0))) ∧ ((bool01 ((IntKind.wrap .i32 (a1 - (IntKind.wrap .i64 ((BO.ev .quo .i64 a1 a2) * a2)))) == (IntKind.wrap .i32 (a1 - (IntKind.wrap .i64 ((IntKind.wrap .i64 (0 - (BO.ev .quo .i64 (0 - a1) a2))) * a2)))))) = 0 →
      (0 : Int) ≠ 0))) ∧ ((bool01 ((bool01 ((bool01 (decide (a1 < 0))) == 0)) != (bool01 ((bool01 (decide (a2 < 0))) == 0)))) = 0 →
     (((bool01 ((IntKind.wrap .i32 (a1 - (IntKind.wrap .i64 ((BO.ev .quo .i64 a1 a2) * a2)))) == (IntKind.wrap .i32 (a1 - (IntKind.wrap .i64 ((BO.ev .quo .i64 (0 - a1) a2) * a2)))))) ≠ 0 →
      (((bool01 ((IntKind.wrap .i64 ((IntKind.wrap .i64 (rdZ a3 22)) + (blen64 (IntKind.wrap .u64 (maxZ a1 (0 - a1)))))) == (2 + (blen64 (maxZ (0 - a1) 0))))) ≠ 0 →
       ((bool01 ((IntKind.wrap .i64 ((IntKind.wrap .i64 (rdZ a3 21)) + 3)) == 5)) : Int) ≠ 0) ∧ ((bool01 ((IntKind.wrap .i64 ((IntKind.wrap .i64 (rdZ a3 22)) + (blen64 (IntKind.wrap .u64 (maxZ a1 (0 - a1)))))) == (2 + (blen64 (maxZ (0 - a1) 0))))) = 0 →
       (0 : Int) ≠ 0))) ∧ ((bool01 ((IntKind.wrap .i32 (a1 - (IntKind.wrap .i64 ((BO.ev .quo .i64 a1 a2) * a2)))) == (IntKind.wrap .i32 (a1 - (IntKind.wrap .i64 ((BO.ev .quo .i64 (0 - a1) a2) * a2)))))) = 0 →
      (0 : Int) ≠ 0))))))) ∧ ((bool01 (decide (a1 < 0))) = 0 →
   (((bool01 (decide (a2 < 0))) ≠ 0 →
    (((bool01 ((0 - a2) == 0)) ≠ 0 →
     False) ∧ ((bool01 ((0 - a2) == 0)) = 0 →
     (((bool01 ((bool01 ((bool01 (decide (a1 < 0))) == 0)) != (bool01 ((bool01 (decide (a2 < 0))) == 0)))) ≠ 0 →
      (((bool01 ((IntKind.wrap .i32 (a1 - (IntKind.wrap .i64 ((BO.ev .quo .i64 a1 a2) * a2)))) == (IntKind.wrap .i32 (a1 - (IntKind.wrap .i64 ((IntKind.wrap .i64 (0 - (BO.ev .quo .i64 a1 (0 - a2)))) * a2)))))) ≠ 0 →
       (((bool01 ((IntKind.wrap .i64 ((IntKind.wrap .i64 (rdZ a3 22)) + (blen64 (IntKind.wrap .u64 (maxZ a1 (0 - a1)))))) == (2 + (blen64 (maxZ a1 0))))) ≠ 0 →
        ((bool01 ((IntKind.wrap .i64 ((IntKind.wrap .i64 (rdZ a3 21)) + 3)) == 5)) : Int) ≠ 0) ∧ ((bool01 ((IntKind.wrap .i64 ((IntKind.wrap .i64 (rdZ a3 22)) + (blen64 (IntKind.wrap .u64 (maxZ a1 (0 - a1)))))) == (2 + (blen64 (maxZ a1 0))))) = 0 →
        (0 : Int) ≠ 0))) ∧ ((bool01 ((IntKind.wrap .i32 (a1 - (IntKind.wrap .i64 ((BO.ev .quo .i64 a1 a2) * a2)))) == (IntKind.wrap .i32 (a1 - (IntKind.wrap .i64 ((IntKind.wrap .i64 (0 - (BO.ev .quo .i64 a1 (0 - a2)))) * a2)))))) = 0 →
       (0 : Int) ≠ 0))) ∧ ((bool01 ((bool01 ((bool01 (decide (a1 < 0))) == 0)) != (bool01 ((bool01 (decide (a2 < 0))) == 0)))) = 0 →
      (((bool01 ((IntKind.wrap .i32 (a1 - (IntKind.wrap .i64 ((BO.ev .quo .i64 a1 a2) * a2)))) == (IntKind.wrap .i32 (a1 - (IntKind.wrap .i64 ((BO.ev .quo .i64 a1 (0 - a2)) * a2)))))) ≠ 0 →
       (((bool01 ((IntKind.wrap .i64 ((IntKind.wrap .i64 (rdZ a3 22)) + (blen64 (IntKind.wrap .u64 (maxZ a1 (0 - a1)))))) == (2 + (blen64 (maxZ a1 0))))) ≠ 0 →
        ((bool01 ((IntKind.wrap .i64 ((IntKind.wrap .i64 (rdZ a3 21)) + 3)) == 5)) : Int) ≠ 0) ∧ ((bool01 ((IntKind.wrap .i64 ((IntKind.wrap .i64 (rdZ a3 22)) + (blen64 (IntKind.wrap .u64 (maxZ a1 (0 - a1)))))) == (2 + (blen64 (maxZ a1 0))))) = 0 →
        (0 : Int) ≠ 0))) ∧ ((bool01 ((IntKind.wrap .i32 (a1 - (IntKind.wrap .i64 ((BO.ev .quo .i64 a1 a2) * a2)))) == (IntKind.wrap .i32 (a1 - (IntKind.wrap .i64 ((BO.ev .quo .i64 a1 (0 - a2)) * a2)))))) = 0 →
       (0 : Int) ≠ 0))))))) ∧ ((bool01 (decide (a2 < 0))) = 0 →
    (((bool01 ((bool01 ((bool01 (decide (a1 < 0))) == 0)) != (bool01 ((bool01 (decide (a2 < 0))) == 0)))) ≠ 0 →
     (((bool01 ((IntKind.wrap .i32 (a1 - (IntKind.wrap .i64 ((BO.ev .quo .i64 a1 a2) * a2)))) == (IntKind.wrap .i32 (a1 - (IntKind.wrap .i64 ((IntKind.wrap .i64 (0 - (BO.ev .quo .i64 a1 a2))) * a2)))))) ≠ 0 →
      (((bool01 ((IntKind.wrap .i64 ((IntKind.wrap .i64 (rdZ a3 22)) + (blen64 (IntKind.wrap .u64 (maxZ a1 (0 - a1)))))) == (2 + (blen64 (maxZ a1 0))))) ≠ 0 →
       ((bool01 ((IntKind.wrap .i64 ((IntKind.wrap .i64 (rdZ a3 21)) + 3)) == 5)) : Int) ≠ 0) ∧ ((bool01 ((IntKind.wrap .i64 ((IntKind.wrap .i64 (rdZ a3 22)) + (blen64 (IntKind.wrap .u64 (maxZ a1 (0 - a1)))))) == (2 + (blen64 (maxZ a1 0))))) = 0 →
       (0 : Int) ≠ 0))) ∧ ((bool01 ((IntKind.wrap .i32 (a1 - (IntKind.wrap .i64 ((BO.ev .quo .i64 a1 a2) * a2)))) == (IntKind.wrap .i32 (a1 - (IntKind.wrap .i64 ((IntKind.wrap .i64 (0 - (BO.ev .quo .i64 a1 a2))) * a2)))))) = 0 →
      (0 : Int) ≠ 0))) ∧ ((bool01 ((bool01 ((bool01 (decide (a1 < 0))) == 0)) != (bool01 ((bool01 (decide (a2 < 0))) == 0)))) = 0 →
     (((bool01 ((IntKind.wrap .i64 ((IntKind.wrap .i64 (rdZ a3 22)) + (blen64 (IntKind.wrap .u64 (maxZ a1 (0 - a1)))))) == (2 + (blen64 (maxZ a1 0))))) ≠ 0 →
      ((bool01 ((IntKind.wrap .i64 ((IntKind.wrap .i64 (rdZ a3 21)) + 3)) == 5)) : Int) ≠ 0) ∧ ((bool01 ((IntKind.wrap .i64 ((IntKind.wrap .i64 (rdZ a3 22)) + (blen64 (IntKind.wrap .u64 (maxZ a1 (0 - a1)))))) == (2 + (blen64 (maxZ a1 0))))) = 0 →
      (0 : Int) ≠ 0))))))))))

theorem plain (a0 a1 a2 a3 : Int) (ro : List RO) : TT.hdP (cxOf 2 [(23, 23), (-2147483648, 2147483647), (-2147483648, 2147483647)] [⟨[.int .i64], .v 3, .c 43, .c 43, some 0⟩]) isOne tree (envR [a0, a1, a2, a3] ro) = P a0 a1 a2 a3 := by kernel_rfl

theorem wrapu {x : Int} (h1 : 0 ≤ x) (h2 : x ≤ 18446744073709551615) : IntKind.wrap .u64 x = x := wrap_in _ _ (by simp [klo]; omega) (by simp [khi]; omega)
theorem cneg {a : Int} (l : -2147483648 ≤ a) (h : a < 0) : IntKind.wrap .i64 (2 + blen64 (IntKind.wrap .u64 (maxZ a (0 - a)))) = 2 + blen64 (maxZ (0 - a) 0) := by
  have e1 : maxZ a (0 - a) = 0 - a := by unfold maxZ; split <;> omega
  have e2 : maxZ (0 - a) 0 = 0 - a := by unfold maxZ; split <;> omega
  have hb := blen64_bd (0 - a)
  rw [e1, e2, wrapu (by omega) (by omega), wrap_i64 (by omega) (by omega)]
theorem cpos {a : Int} (u : a ≤ 2147483647) (h : ¬ a < 0) : IntKind.wrap .i64 (2 + blen64 (IntKind.wrap .u64 (maxZ a (0 - a)))) = 2 + blen64 (maxZ a 0) := by
  have e1 : maxZ a (0 - a) = a := by unfold maxZ; split <;> omega
  have e2 : maxZ a 0 = a := by unfold maxZ; split <;> omega
  have hb := blen64_bd a
  rw [e1, e2, wrapu (by omega) (by omega), wrap_i64 (by omega) (by omega)]
theorem quo_eq {x y : Int} (h1 : -2147483648 ≤ x) (h2 : x ≤ 2147483648) : BO.ev .quo .i64 x y = x.tdiv y ∧ -2147483648 ≤ x.tdiv y ∧ x.tdiv y ≤ 2147483648 := by
  have := Int.natAbs_tdiv_le_natAbs x y
  exact ⟨wrap_i64 (by omega) (by omega), by omega, by omega⟩
theorem holds (a0 a1 a2 : Int) (l0 : 23 ≤ a0) (u0 : a0 ≤ 23) (l1 : -2147483648 ≤ a1) (u1 : a1 ≤ 2147483647) (l2 : -2147483648 ≤ a2) (u2 : a2 ≤ 2147483647) : P a0 a1 a2 (LZ tab0) := by
  have h5 : (IntKind.wrap .i64 ((IntKind.wrap .i64 (rdZ (LZ tab0) 21)) + 3)) = 5 := by rw [rdZ_LZ]; decide
  have r1 : IntKind.wrap .i64 (rdZ (LZ tab0) (22)) = 2 := by rw [rdZ_LZ]; decide
  obtain ⟨q0, b1, b2⟩ := quo_eq (x := a1) (y := a2) l1 (by omega)
  have q1 : BO.ev .quo .i64 (0 - a1) (0 - a2) = a1.tdiv a2 := by
    rw [(quo_eq (x := 0 - a1) (y := 0 - a2) (by omega) (by omega)).1, Int.zero_sub, Int.zero_sub, Int.neg_tdiv, Int.tdiv_neg, Int.neg_neg]
  have q2 : 0 - BO.ev .quo .i64 (0 - a1) a2 = a1.tdiv a2 := by
    rw [(quo_eq (x := 0 - a1) (y := a2) (by omega) (by omega)).1, Int.zero_sub a1, Int.neg_tdiv]; omega
  have q3 : 0 - BO.ev .quo .i64 a1 (0 - a2) = a1.tdiv a2 := by
    rw [(quo_eq (x := a1) (y := 0 - a2) (by omega) (by omega)).1, Int.zero_sub a2, Int.tdiv_neg]; omega
  have w := wrap_i64 (x := a1.tdiv a2) (by omega) (by omega)
  unfold P
  rw [h5, r1]
  simp only [q0, q1, q2, q3, w]
  by_cases s1 : a1 < 0
  · rw [cneg l1 s1]
    by_cases z : a2 = 0
    · simp [bool01, s1, z]
    · by_cases s2 : a2 < 0
      · simp [bool01, s1, z, s2, show ¬ (0 - a2 = 0) by omega]
      · simp [bool01, s1, z, s2]
  · rw [cpos u1 s1]
    by_cases z : a2 = 0
    · simp [bool01, s1, z]
    · by_cases s2 : a2 < 0
      · simp [bool01, s1, z, s2, show ¬ (0 - a2 = 0) by omega]
      · simp [bool01, s1, z, s2]

theorem ran : TT.beq (projL pjB (runA [(23, 23), (-2147483648, 2147483647), (-2147483648, 2147483647)] 3 [.int .i64 (.c 23), .int .i32 (.v 1), .int .i32 (.v 2)] ⟨[], []⟩)) tree = true := by kernel_rfl
theorem fineT : (TT.fine (cxOf 2 [(23, 23), (-2147483648, 2147483647), (-2147483648, 2147483647)] [⟨[.int .i64], .v 3, .c 43, .c 43, some 0⟩]) 1000 [] tree && (cxOf 2 [(23, 23), (-2147483648, 2147483647), (-2147483648, 2147483647)] [⟨[.int .i64], .v 3, .c 43, .c 43, some 0⟩]).okB 1000 && SV.vbL 1000 [.int .i64 (.c 23), .int .i32 (.v 1), .int .i32 (.v 2)] && TT.tidy (cxOf 2 [(23, 23), (-2147483648, 2147483647), (-2147483648, 2147483647)] [⟨[.int .i64], .v 3, .c 43, .c 43, some 0⟩]) [] tree) = true := by kernel_rfl
theorem walk (a0 a1 a2 : Int) (w0 : (Lit.int .i64 a0).wf = true) (w1 : (Lit.int .i32 a1).wf = true) (w2 : (Lit.int .i32 a2).wf = true) (w : World) (t0 : Lib.TabIs Tryz.prog w "astrolabe/ops.costs" .i64 tab0) (hc : 23 ≤ a0 ∧ a0 ≤ 23) :
    Calls Tryz.prog 3 #[.int .i64 a0, .int .i32 a1, .int .i32 a2] w fun e w' => e = .returned (.bool true) ∧ Below w.heap.size w w' :=
  lawT_of (runA_ok [(23, 23), (-2147483648, 2147483647), (-2147483648, 2147483647)]) (ρ := envR [a0, a1, a2, LZ tab0] [tabRo 0 .i64 tab0]) (envR_ok (cx := cxOf 2 [(23, 23), (-2147483648, 2147483647), (-2147483648, 2147483647)] [⟨[.int .i64], .v 3, .c 43, .c 43, some 0⟩]) rfl rfl (bnd_cons hc (bnd_cons (wf_bd w1) (bnd_cons (wf_bd w2) (bnd_nil _)))) ⟨⟨rfl, rfl, rfl, rfl, (fun h => by cases h), fun g h => by cases h; rfl⟩, trivial⟩) (f := 3) (args := [.int .i64 (.c 23), .int .i32 (.v 1), .int .i32 (.v 2)]) (t := tree) ran fineT
    (by rw [plain]; exact holds a0 a1 a2 hc.1 hc.2 (wf_bd w1).1 (wf_bd w1).2 (wf_bd w2).1 (wf_bd w2).2) (roOk_of ⟨tabRo_at t0 tabG0 tabW0, trivial⟩) (by obtain rfl : a0 = 23 := (by omega); rfl)

end c23

namespace c24
def tree : TT (List E) :=
(.br (.b .eq .i64 (.v 2) (.c 0))
  (.br (.b .eq .i64 (.w .i64 (.f 13 (.v 3) (.c 23) (.c 0))) (.c 1))
  (.leaf [(.b .eq .i64 (.w .i64 (.b .padd .i64 (.w .i64 (.f 13 (.v 3) (.c 21) (.c 0))) (.c 3))) (.c 5))])
  (.leaf [(.c 0)]))
  (.br (.b .eq .i64 (.w .i64 (.f 13 (.v 3) (.c 23) (.c 0))) (.c 1))
  (.leaf [(.b .eq .i64 (.w .i64 (.b .padd .i64 (.w .i64 (.f 13 (.v 3) (.c 21) (.c 0))) (.c 3))) (.c 5))])
  (.leaf [(.c 0)])))

def P (a0 a1 a2 a3 : Int) : Prop :=
 (((bool01 (a2 == 0)) ≠ 0 →
  (((bool01 ((IntKind.wrap .i64 (rdZ a3 23)) == 1)) ≠ 0 →
   ((bool01 ((IntKind.wrap .i64 ((IntKind.wrap .i64 (rdZ a3 21)) + 3)) == 5)) : Int) ≠ 0) ∧ ((bool01 ((IntKind.wrap .i64 (rdZ a3 23)) == 1)) = 0 →
   (0 : Int) ≠ 0))) ∧ ((bool01 (a2 == 0)) = 0 →
  (((bool01 ((IntKind.wrap .i64 (rdZ a3 23)) == 1)) ≠ 0 →
   ((bool01 ((IntKind.wrap .i64 ((IntKind.wrap .i64 (rdZ a3 21)) + 3)) == 5)) : Int) ≠ 0) ∧ ((bool01 ((IntKind.wrap .i64 (rdZ a3 23)) == 1)) = 0 →
   (0 : Int) ≠ 0))))

theorem plain (a0 a1 a2 a3 : Int) (ro : List RO) : TT.hdP (cxOf 2 [(24, 24), (-2147483648, 2147483647), (-2147483648, 2147483647)] [⟨[.int .i64], .v 3, .c 43, .c 43, some 0⟩]) isOne tree (envR [a0, a1, a2, a3] ro) = P a0 a1 a2 a3 := by kernel_rfl

theorem holds (a0 a1 a2 : Int) (l0 : 24 ≤ a0) (u0 : a0 ≤ 24) (l1 : -2147483648 ≤ a1) (u1 : a1 ≤ 2147483647) (l2 : -2147483648 ≤ a2) (u2 : a2 ≤ 2147483647) : P a0 a1 a2 (LZ tab0) := by
  have h5 : (IntKind.wrap .i64 ((IntKind.wrap .i64 (rdZ (LZ tab0) 21)) + 3)) = 5 := by rw [rdZ_LZ]; decide
  have r1 : 24 < 1 ∨ 43 < 24 ∨ IntKind.wrap .i64 (rdZ (LZ tab0) (23)) = 1 := by
    first
      | exact .inl (by decide)
      | exact .inr (.inl (by decide))
      | exact .inr (.inr (by rw [rdZ_LZ]; decide))
  unfold P
  first
    | (rcases r1 with r1 | r1 | r1 <;> simp [h5, r1, bool01]; done)
    | (simp [h5, bool01]; done)
    | (simp [h5] at *; simp_all [bool01]; done)

theorem ran : TT.beq (projL pjB (runA [(24, 24), (-2147483648, 2147483647), (-2147483648, 2147483647)] 3 [.int .i64 (.c 24), .int .i32 (.v 1), .int .i32 (.v 2)] ⟨[], []⟩)) tree = true := by kernel_rfl
theorem fineT : (TT.fine (cxOf 2 [(24, 24), (-2147483648, 2147483647), (-2147483648, 2147483647)] [⟨[.int .i64], .v 3, .c 43, .c 43, some 0⟩]) 1000 [] tree && (cxOf 2 [(24, 24), (-2147483648, 2147483647), (-2147483648, 2147483647)] [⟨[.int .i64], .v 3, .c 43, .c 43, some 0⟩]).okB 1000 && SV.vbL 1000 [.int .i64 (.c 24), .int .i32 (.v 1), .int .i32 (.v 2)] && TT.tidy (cxOf 2 [(24, 24), (-2147483648, 2147483647), (-2147483648, 2147483647)] [⟨[.int .i64], .v 3, .c 43, .c 43, some 0⟩]) [] tree) = true := by kernel_rfl
theorem walk (a0 a1 a2 : Int) (w0 : (Lit.int .i64 a0).wf = true) (w1 : (Lit.int .i32 a1).wf = true) (w2 : (Lit.int .i32 a2).wf = true) (w : World) (t0 : Lib.TabIs Tryz.prog w "astrolabe/ops.costs" .i64 tab0) (hc : 24 ≤ a0 ∧ a0 ≤ 24) :
    Calls Tryz.prog 3 #[.int .i64 a0, .int .i32 a1, .int .i32 a2] w fun e w' => e = .returned (.bool true) ∧ Below w.heap.size w w' :=
  lawT_of (runA_ok [(24, 24), (-2147483648, 2147483647), (-2147483648, 2147483647)]) (ρ := envR [a0, a1, a2, LZ tab0] [tabRo 0 .i64 tab0]) (envR_ok (cx := cxOf 2 [(24, 24), (-2147483648, 2147483647), (-2147483648, 2147483647)] [⟨[.int .i64], .v 3, .c 43, .c 43, some 0⟩]) rfl rfl (bnd_cons hc (bnd_cons (wf_bd w1) (bnd_cons (wf_bd w2) (bnd_nil _)))) ⟨⟨rfl, rfl, rfl, rfl, (fun h => by cases h), fun g h => by cases h; rfl⟩, trivial⟩) (f := 3) (args := [.int .i64 (.c 24), .int .i32 (.v 1), .int .i32 (.v 2)]) (t := tree) ran fineT
    (by rw [plain]; exact holds a0 a1 a2 hc.1 hc.2 (wf_bd w1).1 (wf_bd w1).2 (wf_bd w2).1 (wf_bd w2).2) (roOk_of ⟨tabRo_at t0 tabG0 tabW0, trivial⟩) (by obtain rfl : a0 = 24 := (by omega); rfl)

end c24

namespace c25
def tree : TT (List E) :=
(.br (.b .eq .i64 (.v 2) (.c 0))
  (.br (.b .eq .i64 (.w .i64 (.f 13 (.v 3) (.c 24) (.c 0))) (.c 1))
  (.leaf [(.b .eq .i64 (.w .i64 (.b .padd .i64 (.w .i64 (.f 13 (.v 3) (.c 21) (.c 0))) (.c 3))) (.c 5))])
  (.leaf [(.c 0)]))
  (.br (.b .eq .i64 (.w .i64 (.f 13 (.v 3) (.c 24) (.c 0))) (.c 1))
  (.leaf [(.b .eq .i64 (.w .i64 (.b .padd .i64 (.w .i64 (.f 13 (.v 3) (.c 21) (.c 0))) (.c 3))) (.c 5))])
  (.leaf [(.c 0)])))

def P (a0 a1 a2 a3 : Int) : Prop :=
 (((bool01 (a2 == 0)) ≠ 0 →
  (((bool01 ((IntKind.wrap .i64 (rdZ a3 24)) == 1)) ≠ 0 →
   ((bool01 ((IntKind.wrap .i64 ((IntKind.wrap .i64 (rdZ a3 21)) + 3)) == 5)) : Int) ≠ 0) ∧ ((bool01 ((IntKind.wrap .i64 (rdZ a3 24)) == 1)) = 0 →
   (0 : Int) ≠ 0))) ∧ ((bool01 (a2 == 0)) = 0 →
  (((bool01 ((IntKind.wrap .i64 (rdZ a3 24)) == 1)) ≠ 0 →
   ((bool01 ((IntKind.wrap .i64 ((IntKind.wrap .i64 (rdZ a3 21)) + 3)) == 5)) : Int) ≠ 0) ∧ ((bool01 ((IntKind.wrap .i64 (rdZ a3 24)) == 1)) = 0 →
   (0 : Int) ≠ 0))))

theorem plain (a0 a1 a2 a3 : Int) (ro : List RO) : TT.hdP (cxOf 2 [(25, 25), (-2147483648, 2147483647), (-2147483648, 2147483647)] [⟨[.int .i64], .v 3, .c 43, .c 43, some 0⟩]) isOne tree (envR [a0, a1, a2, a3] ro) = P a0 a1 a2 a3 := by kernel_rfl

theorem holds (a0 a1 a2 : Int) (l0 : 25 ≤ a0) (u0 : a0 ≤ 25) (l1 : -2147483648 ≤ a1) (u1 : a1 ≤ 2147483647) (l2 : -2147483648 ≤ a2) (u2 : a2 ≤ 2147483647) : P a0 a1 a2 (LZ tab0) := by
  have h5 : (IntKind.wrap .i64 ((IntKind.wrap .i64 (rdZ (LZ tab0) 21)) + 3)) = 5 := by rw [rdZ_LZ]; decide
  have r1 : 25 < 1 ∨ 43 < 25 ∨ IntKind.wrap .i64 (rdZ (LZ tab0) (24)) = 1 := by
    first
      | exact .inl (by decide)
      | exact .inr (.inl (by decide))
      | exact .inr (.inr (by rw [rdZ_LZ]; decide))
  unfold P
  first
    | (rcases r1 with r1 | r1 | r1 <;> simp [h5, r1, bool01]; done)
    | (simp [h5, bool01]; done)
    | (simp [h5] at *; simp_all [bool01]; done)

theorem ran : TT.beq (projL pjB (runA [(25, 25), (-2147483648, 2147483647), (-2147483648, 2147483647)] 3 [.int .i64 (.c 25), .int .i32 (.v 1), .int .i32 (.v 2)] ⟨[], []⟩)) tree = true := by kernel_rfl
theorem fineT : (TT.fine (cxOf 2 [(25, 25), (-2147483648, 2147483647), (-2147483648, 2147483647)] [⟨[.int .i64], .v 3, .c 43, .c 43, some 0⟩]) 1000 [] tree && (cxOf 2 [(25, 25), (-2147483648, 2147483647), (-2147483648, 2147483647)] [⟨[.int .i64], .v 3, .c 43, .c 43, some 0⟩]).okB 1000 && SV.vbL 1000 [.int .i64 (.c 25), .int .i32 (.v 1), .int .i32 (.v 2)] && TT.tidy (cxOf 2 [(25, 25), (-2147483648, 2147483647), (-2147483648, 2147483647)] [⟨[.int .i64], .v 3, .c 43, .c 43, some 0⟩]) [] tree) = true := by kernel_rfl
theorem walk (a0 a1 a2 : Int) (w0 : (Lit.int .i64 a0).wf = true) (w1 : (Lit.int .i32 a1).wf = true) (w2 : (Lit.int .i32 a2).wf = true) (w : World) (t0 : Lib.TabIs Tryz.prog w "astrolabe/ops.costs" .i64 tab0) (hc : 25 ≤ a0 ∧ a0 ≤ 25) :
    Calls Tryz.prog 3 #[.int .i64 a0, .int .i32 a1, .int .i32 a2] w fun e w' => e = .returned (.bool true) ∧ Below w.heap.size w w' :=
  lawT_of (runA_ok [(25, 25), (-2147483648, 2147483647), (-2147483648, 2147483647)]) (ρ := envR [a0, a1, a2, LZ tab0] [tabRo 0 .i64 tab0]) (envR_ok (cx := cxOf 2 [(25, 25), (-2147483648, 2147483647), (-2147483648, 2147483647)] [⟨[.int .i64], .v 3, .c 43, .c 43, some 0⟩]) rfl rfl (bnd_cons hc (bnd_cons (wf_bd w1) (bnd_cons (wf_bd w2) (bnd_nil _)))) ⟨⟨rfl, rfl, rfl, rfl, (fun h => by cases h), fun g h => by cases h; rfl⟩, trivial⟩) (f := 3) (args := [.int .i64 (.c 25), .int .i32 (.v 1), .int .i32 (.v 2)]) (t := tree) ran fineT
    (by rw [plain]; exact holds a0 a1 a2 hc.1 hc.2 (wf_bd w1).1 (wf_bd w1).2 (wf_bd w2).1 (wf_bd w2).2) (roOk_of ⟨tabRo_at t0 tabG0 tabW0, trivial⟩) (by obtain rfl : a0 = 25 := (by omega); rfl)

end c25

namespace c26
def tree : TT (List E) :=
(.br (.b .eq .i64 (.v 2) (.c 0))
  (.br (.b .eq .i64 (.w .i64 (.f 13 (.v 3) (.c 25) (.c 0))) (.c 1))
  (.leaf [(.b .eq .i64 (.w .i64 (.b .padd .i64 (.w .i64 (.f 13 (.v 3) (.c 21) (.c 0))) (.c 3))) (.c 5))])
  (.leaf [(.c 0)]))
  (.br (.b .eq .i64 (.w .i64 (.f 13 (.v 3) (.c 25) (.c 0))) (.c 1))
  (.leaf [(.b .eq .i64 (.w .i64 (.b .padd .i64 (.w .i64 (.f 13 (.v 3) (.c 21) (.c 0))) (.c 3))) (.c 5))])
  (.leaf [(.c 0)])))

def P (a0 a1 a2 a3 : Int) : Prop :=
 (((bool01 (a2 == 0)) ≠ 0 →
  (((bool01 ((IntKind.wrap .i64 (rdZ a3 25)) == 1)) ≠ 0 →
   ((bool01 ((IntKind.wrap .i64 ((IntKind.wrap .i64 (rdZ a3 21)) + 3)) == 5)) : Int) ≠ 0) ∧ ((bool01 ((IntKind.wrap .i64 (rdZ a3 25)) == 1)) = 0 →
   (0 : Int) ≠ 0))) ∧ ((bool01 (a2 == 0)) = 0 →
  (((bool01 ((IntKind.wrap .i64 (rdZ a3 25)) == 1)) ≠ 0 →
   ((bool01 ((IntKind.wrap .i64 ((IntKind.wrap .i64 (rdZ a3 21)) + 3)) == 5)) : Int) ≠ 0) ∧ ((bool01 ((IntKind.wrap .i64 (rdZ a3 25)) == 1)) = 0 →
   (0 : Int) ≠ 0))))

theorem plain (a0 a1 a2 a3 : Int) (ro : List RO) : TT.hdP (cxOf 2 [(26, 26), (-2147483648, 2147483647), (-2147483648, 2147483647)] [⟨[.int .i64], .v 3, .c 43, .c 43, some 0⟩]) isOne tree (envR [a0, a1, a2, a3] ro) = P a0 a1 a2 a3 := by kernel_rfl

theorem holds (a0 a1 a2 : Int) (l0 : 26 ≤ a0) (u0 : a0 ≤ 26) (l1 : -2147483648 ≤ a1) (u1 : a1 ≤ 2147483647) (l2 : -2147483648 ≤ a2) (u2 : a2 ≤ 2147483647) : P a0 a1 a2 (LZ tab0) := by
  have h5 : (IntKind.wrap .i64 ((IntKind.wrap .i64 (rdZ (LZ tab0) 21)) + 3)) = 5 := by rw [rdZ_LZ]; decide
  have r1 : 26 < 1 ∨ 43 < 26 ∨ IntKind.wrap .i64 (rdZ (LZ tab0) (25)) = 1 := by
    first
      | exact .inl (by decide)
      | exact .inr (.inl (by decide))
      | exact .inr (.inr (by rw [rdZ_LZ]; decide))
  unfold P
  first
    | (rcases r1 with r1 | r1 | r1 <;> simp [h5, r1, bool01]; done)
    | (simp [h5, bool01]; done)
    | (simp [h5] at *; simp_all [bool01]; done)

theorem ran : TT.beq (projL pjB (runA [(26, 26), (-2147483648, 2147483647), (-2147483648, 2147483647)] 3 [.int .i64 (.c 26), .int .i32 (.v 1), .int .i32 (.v 2)] ⟨[], []⟩)) tree = true := by kernel_rfl
theorem fineT : (TT.fine (cxOf 2 [(26, 26), (-2147483648, 2147483647), (-2147483648, 2147483647)] [⟨[.int .i64], .v 3, .c 43, .c 43, some 0⟩]) 1000 [] tree && (cxOf 2 [(26, 26), (-2147483648, 2147483647), (-2147483648, 2147483647)] [⟨[.int .i64], .v 3, .c 43, .c 43, some 0⟩]).okB 1000 && SV.vbL 1000 [.int .i64 (.c 26), .int .i32 (.v 1), .int .i32 (.v 2)] && TT.tidy (cxOf 2 [(26, 26), (-2147483648, 2147483647), (-2147483648, 2147483647)] [⟨[.int .i64], .v 3, .c 43, .c 43, some 0⟩]) [] tree) = true := by kernel_rfl
theorem walk (a0 a1 a2 : Int) (w0 : (Lit.int .i64 a0).wf = true) (w1 : (Lit.int .i32 a1).wf = true) (w2 : (Lit.int .i32 a2).wf = true) (w : World) (t0 : Lib.TabIs Tryz.prog w "astrolabe/ops.costs" .i64 tab0) (hc : 26 ≤ a0 ∧ a0 ≤ 26) :
    Calls Tryz.prog 3 #[.int .i64 a0, .int .i32 a1, .int .i32 a2] w fun e w' => e = .returned (.bool true) ∧ Below w.heap.size w w' :=
  lawT_of (runA_ok [(26, 26), (-2147483648, 2147483647), (-2147483648, 2147483647)]) (ρ := envR [a0, a1, a2, LZ tab0] [tabRo 0 .i64 tab0]) (envR_ok (cx := cxOf 2 [(26, 26), (-2147483648, 2147483647), (-2147483648, 2147483647)] [⟨[.int .i64], .v 3, .c 43, .c 43, some 0⟩]) rfl rfl (bnd_cons hc (bnd_cons (wf_bd w1) (bnd_cons (wf_bd w2) (bnd_nil _)))) ⟨⟨rfl, rfl, rfl, rfl, (fun h => by cases h), fun g h => by cases h; rfl⟩, trivial⟩) (f := 3) (args := [.int .i64 (.c 26), .int .i32 (.v 1), .int .i32 (.v 2)]) (t := tree) ran fineT
    (by rw [plain]; exact holds a0 a1 a2 hc.1 hc.2 (wf_bd w1).1 (wf_bd w1).2 (wf_bd w2).1 (wf_bd w2).2) (roOk_of ⟨tabRo_at t0 tabG0 tabW0, trivial⟩) (by obtain rfl : a0 = 26 := (by omega); rfl)

end c26

namespace c27
def tree : TT (List E) :=
(.br (.b .ne .i64 (.v 1) (.c 0))
  (.br (.b .eq .i64 (.v 2) (.c 0))
  (.br (.b .eq .i64 (.w .i64 (.f 13 (.v 3) (.c 26) (.c 0))) (.c 1))
  (.leaf [(.b .eq .i64 (.w .i64 (.b .padd .i64 (.w .i64 (.f 13 (.v 3) (.c 21) (.c 0))) (.c 3))) (.c 5))])
  (.leaf [(.c 0)]))
  (.br (.b .eq .i64 (.w .i64 (.f 13 (.v 3) (.c 26) (.c 0))) (.c 1))
  (.leaf [(.b .eq .i64 (.w .i64 (.b .padd .i64 (.w .i64 (.f 13 (.v 3) (.c 21) (.c 0))) (.c 3))) (.c 5))])
  (.leaf [(.c 0)])))
  (.br (.b .eq .i64 (.v 2) (.c 0))
  (.br (.b .eq .i64 (.w .i64 (.f 13 (.v 3) (.c 26) (.c 0))) (.c 1))
  (.leaf [(.b .eq .i64 (.w .i64 (.b .padd .i64 (.w .i64 (.f 13 (.v 3) (.c 21) (.c 0))) (.c 3))) (.c 5))])
  (.leaf [(.c 0)]))
  (.br (.b .eq .i64 (.w .i64 (.f 13 (.v 3) (.c 26) (.c 0))) (.c 1))
  (.leaf [(.b .eq .i64 (.w .i64 (.b .padd .i64 (.w .i64 (.f 13 (.v 3) (.c 21) (.c 0))) (.c 3))) (.c 5))])
  (.leaf [(.c 0)]))))

def P (a0 a1 a2 a3 : Int) : Prop :=
 (((bool01 (a1 != 0)) ≠ 0 →
  (((bool01 (a2 == 0)) ≠ 0 →
   (((bool01 ((IntKind.wrap .i64 (rdZ a3 26)) == 1)) ≠ 0 →
    ((bool01 ((IntKind.wrap .i64 ((IntKind.wrap .i64 (rdZ a3 21)) + 3)) == 5)) : Int) ≠ 0) ∧ ((bool01 ((IntKind.wrap .i64 (rdZ a3 26)) == 1)) = 0 →
    (0 : Int) ≠ 0))) ∧ ((bool01 (a2 == 0)) = 0 →
   (((bool01 ((IntKind.wrap .i64 (rdZ a3 26)) == 1)) ≠ 0 →
    ((bool01 ((IntKind.wrap .i64 ((IntKind.wrap .i64 (rdZ a3 21)) + 3)) == 5)) : Int) ≠ 0) ∧ ((bool01 ((IntKind.wrap .i64 (rdZ a3 26)) == 1)) = 0 →
    (0 : Int) ≠ 0))))) ∧ ((bool01 (a1 != 0)) = 0 →
  (((bool01 (a2 == 0)) ≠ 0 →
   (((bool01 ((IntKind.wrap .i64 (rdZ a3 26)) == 1)) ≠ 0 →
    ((bool01 ((IntKind.wrap .i64 ((IntKind.wrap .i64 (rdZ a3 21)) + 3)) == 5)) : Int) ≠ 0) ∧ ((bool01 ((IntKind.wrap .i64 (rdZ a3 26)) == 1)) = 0 →
    (0 : Int) ≠ 0))) ∧ ((bool01 (a2 == 0)) = 0 →
   (((bool01 ((IntKind.wrap .i64 (rdZ a3 26)) == 1)) ≠ 0 →
    ((bool01 ((IntKind.wrap .i64 ((IntKind.wrap .i64 (rdZ a3 21)) + 3)) == 5)) : Int) ≠ 0) ∧ ((bool01 ((IntKind.wrap .i64 (rdZ a3 26)) == 1)) = 0 →
    (0 : Int) ≠ 0))))))

theorem plain (a0 a1 a2 a3 : Int) (ro : List RO) : TT.hdP (cxOf 2 [(27, 27), (-2147483648, 2147483647), (-2147483648, 2147483647)] [⟨[.int .i64], .v 3, .c 43, .c 43, some 0⟩]) isOne tree (envR [a0, a1, a2, a3] ro) = P a0 a1 a2 a3 := by kernel_rfl

theorem holds (a0 a1 a2 : Int) (l0 : 27 ≤ a0) (u0 : a0 ≤ 27) (l1 : -2147483648 ≤ a1) (u1 : a1 ≤ 2147483647) (l2 : -2147483648 ≤ a2) (u2 : a2 ≤ 2147483647) : P a0 a1 a2 (LZ tab0) := by
  have h5 : (IntKind.wrap .i64 ((IntKind.wrap .i64 (rdZ (LZ tab0) 21)) + 3)) = 5 := by rw [rdZ_LZ]; decide
  have r1 : 27 < 1 ∨ 43 < 27 ∨ IntKind.wrap .i64 (rdZ (LZ tab0) (26)) = 1 := by
    first
      | exact .inl (by decide)
      | exact .inr (.inl (by decide))
      | exact .inr (.inr (by rw [rdZ_LZ]; decide))
  unfold P
  first
    | (rcases r1 with r1 | r1 | r1 <;> simp [h5, r1, bool01]; done)
    | (simp [h5, bool01]; done)
    | (simp [h5] at *; simp_all [bool01]; done)

theorem ran : TT.beq (projL pjB (runA [(27, 27), (-2147483648, 2147483647), (-2147483648, 2147483647)] 3 [.int .i64 (.c 27), .int .i32 (.v 1), .int .i32 (.v 2)] ⟨[], []⟩)) tree = true := by kernel_rfl
theorem fineT : (TT.fine (cxOf 2 [(27, 27), (-2147483648, 2147483647), (-2147483648, 2147483647)] [⟨[.int .i64], .v 3, .c 43, .c 43, some 0⟩]) 1000 [] tree && (cxOf 2 [(27, 27), (-2147483648, 2147483647), (-2147483648, 2147483647)] [⟨[.int .i64], .v 3, .c 43, .c 43, some 0⟩]).okB 1000 && SV.vbL 1000 [.int .i64 (.c 27), .int .i32 (.v 1), .int .i32 (.v 2)] && TT.tidy (cxOf 2 [(27, 27), (-2147483648, 2147483647), (-2147483648, 2147483647)] [⟨[.int .i64], .v 3, .c 43, .c 43, some 0⟩]) [] tree) = true := by kernel_rfl
theorem walk (a0 a1 a2 : Int) (w0 : (Lit.int .i64 a0).wf = true) (w1 : (Lit.int .i32 a1).wf = true) (w2 : (Lit.int .i32 a2).wf = true) (w : World) (t0 : Lib.TabIs Tryz.prog w "astrolabe/ops.costs" .i64 tab0) (hc : 27 ≤ a0 ∧ a0 ≤ 27) :
    Calls Tryz.prog 3 #[.int .i64 a0, .int .i32 a1, .int .i32 a2] w fun e w' => e = .returned (.bool true) ∧ Below w.heap.size w w' :=
  lawT_of (runA_ok [(27, 27), (-2147483648, 2147483647), (-2147483648, 2147483647)]) (ρ := envR [a0, a1, a2, LZ tab0] [tabRo 0 .i64 tab0]) (envR_ok (cx := cxOf 2 [(27, 27), (-2147483648, 2147483647), (-2147483648, 2147483647)] [⟨[.int .i64], .v 3, .c 43, .c 43, some 0⟩]) rfl rfl (bnd_cons hc (bnd_cons (wf_bd w1) (bnd_cons (wf_bd w2) (bnd_nil _)))) ⟨⟨rfl, rfl, rfl, rfl, (fun h => by cases h), fun g h => by cases h; rfl⟩, trivial⟩) (f := 3) (args := [.int .i64 (.c 27), .int .i32 (.v 1), .int .i32 (.v 2)]) (t := tree) ran fineT
    (by rw [plain]; exact holds a0 a1 a2 hc.1 hc.2 (wf_bd w1).1 (wf_bd w1).2 (wf_bd w2).1 (wf_bd w2).2) (roOk_of ⟨tabRo_at t0 tabG0 tabW0, trivial⟩) (by obtain rfl : a0 = 27 := (by omega); rfl)

end c27

namespace c28
def tree : TT (List E) :=
(.br (.b .eq .i64 (.v 2) (.c 0))
  (.br (.b .eq .i64 (.w .i64 (.f 13 (.v 3) (.c 27) (.c 0))) (.c 1))
  (.leaf [(.b .eq .i64 (.w .i64 (.b .padd .i64 (.w .i64 (.f 13 (.v 3) (.c 21) (.c 0))) (.c 3))) (.c 5))])
  (.leaf [(.c 0)]))
  (.br (.b .eq .i64 (.w .i64 (.f 13 (.v 3) (.c 27) (.c 0))) (.c 1))
  (.leaf [(.b .eq .i64 (.w .i64 (.b .padd .i64 (.w .i64 (.f 13 (.v 3) (.c 21) (.c 0))) (.c 3))) (.c 5))])
  (.leaf [(.c 0)])))

def P (a0 a1 a2 a3 : Int) : Prop :=
 (((bool01 (a2 == 0)) ≠ 0 →
  (((bool01 ((IntKind.wrap .i64 (rdZ a3 27)) == 1)) ≠ 0 →
   ((bool01 ((IntKind.wrap .i64 ((IntKind.wrap .i64 (rdZ a3 21)) + 3)) == 5)) : Int) ≠ 0) ∧ ((bool01 ((IntKind.wrap .i64 (rdZ a3 27)) == 1)) = 0 →
   (0 : Int) ≠ 0))) ∧ ((bool01 (a2 == 0)) = 0 →
  (((bool01 ((IntKind.wrap .i64 (rdZ a3 27)) == 1)) ≠ 0 →
   ((bool01 ((IntKind.wrap .i64 ((IntKind.wrap .i64 (rdZ a3 21)) + 3)) == 5)) : Int) ≠ 0) ∧ ((bool01 ((IntKind.wrap .i64 (rdZ a3 27)) == 1)) = 0 →
   (0 : Int) ≠ 0))))

theorem plain (a0 a1 a2 a3 : Int) (ro : List RO) : TT.hdP (cxOf 2 [(28, 28), (-2147483648, 2147483647), (-2147483648, 2147483647)] [⟨[.int .i64], .v 3, .c 43, .c 43, some 0⟩]) isOne tree (envR [a0, a1, a2, a3] ro) = P a0 a1 a2 a3 := by kernel_rfl

theorem holds (a0 a1 a2 : Int) (l0 : 28 ≤ a0) (u0 : a0 ≤ 28) (l1 : -2147483648 ≤ a1) (u1 : a1 ≤ 2147483647) (l2 : -2147483648 ≤ a2) (u2 : a2 ≤ 2147483647) : P a0 a1 a2 (LZ tab0) := by
  have h5 : (IntKind.wrap .i64 ((IntKind.wrap .i64 (rdZ (LZ tab0) 21)) + 3)) = 5 := by rw [rdZ_LZ]; decide
  have r1 : 28 < 1 ∨ 43 < 28 ∨ IntKind.wrap .i64 (rdZ (LZ tab0) (27)) = 1 := by
    first
      | exact .inl (by decide)
      | exact .inr (.inl (by decide))
      | exact .inr (.inr (by rw [rdZ_LZ]; decide))
  unfold P
  first
    | (rcases r1 with r1 | r1 | r1 <;> simp [h5, r1, bool01]; done)
    | (simp [h5, bool01]; done)
    | (simp [h5] at *; simp_all [bool01]; done)

theorem ran : TT.beq (projL pjB (runA [(28, 28), (-2147483648, 2147483647), (-2147483648, 2147483647)] 3 [.int .i64 (.c 28), .int .i32 (.v 1), .int .i32 (.v 2)] ⟨[], []⟩)) tree = true := by kernel_rfl
theorem fineT : (TT.fine (cxOf 2 [(28, 28), (-2147483648, 2147483647), (-2147483648, 2147483647)] [⟨[.int .i64], .v 3, .c 43, .c 43, some 0⟩]) 1000 [] tree && (cxOf 2 [(28, 28), (-2147483648, 2147483647), (-2147483648, 2147483647)] [⟨[.int .i64], .v 3, .c 43, .c 43, some 0⟩]).okB 1000 && SV.vbL 1000 [.int .i64 (.c 28), .int .i32 (.v 1), .int .i32 (.v 2)] && TT.tidy (cxOf 2 [(28, 28), (-2147483648, 2147483647), (-2147483648, 2147483647)] [⟨[.int .i64], .v 3, .c 43, .c 43, some 0⟩]) [] tree) = true := by kernel_rfl
theorem walk (a0 a1 a2 : Int) (w0 : (Lit.int .i64 a0).wf = true) (w1 : (Lit.int .i32 a1).wf = true) (w2 : (Lit.int .i32 a2).wf = true) (w : World) (t0 : Lib.TabIs Tryz.prog w "astrolabe/ops.costs" .i64 tab0) (hc : 28 ≤ a0 ∧ a0 ≤ 28) :
    Calls Tryz.prog 3 #[.int .i64 a0, .int .i32 a1, .int .i32 a2] w fun e w' => e = .returned (.bool true) ∧ Below w.heap.size w w' :=
  lawT_of (runA_ok [(28, 28), (-2147483648, 2147483647), (-2147483648, 2147483647)]) (ρ := envR [a0, a1, a2, LZ tab0] [tabRo 0 .i64 tab0]) (envR_ok (cx := cxOf 2 [(28, 28), (-2147483648, 2147483647), (-2147483648, 2147483647)] [⟨[.int .i64], .v 3, .c 43, .c 43, some 0⟩]) rfl rfl (bnd_cons hc (bnd_cons (wf_bd w1) (bnd_cons (wf_bd w2) (bnd_nil _)))) ⟨⟨rfl, rfl, rfl, rfl, (fun h => by cases h), fun g h => by cases h; rfl⟩, trivial⟩) (f := 3) (args := [.int .i64 (.c 28), .int .i32 (.v 1), .int .i32 (.v 2)]) (t := tree) ran fineT
    (by rw [plain]; exact holds a0 a1 a2 hc.1 hc.2 (wf_bd w1).1 (wf_bd w1).2 (wf_bd w2).1 (wf_bd w2).2) (roOk_of ⟨tabRo_at t0 tabG0 tabW0, trivial⟩) (by obtain rfl : a0 = 28 := (by omega); rfl)

end c28

namespace c29
def tree : TT (List E) :=
(.br (.b .eq .i64 (.v 2) (.c 0))
  (.br (.b .lt .i64 (.b .rem .i64 (.v 1) (.c 65536)) (.c 0))
  (.br (.b .le .i64 (.c 32768) (.b .padd .i64 (.b .rem .i64 (.v 1) (.c 65536)) (.c 65536)))
  (.br (.b .eq .i64 (.w .i16 (.v 1)) (.b .psub .i64 (.b .padd .i64 (.b .rem .i64 (.v 1) (.c 65536)) (.c 65536)) (.c 65536)))
  (.br (.b .eq .i64 (.w .i64 (.f 13 (.v 3) (.c 28) (.c 0))) (.c 1))
  (.leaf [(.b .eq .i64 (.w .i64 (.b .padd .i64 (.w .i64 (.f 13 (.v 3) (.c 21) (.c 0))) (.c 3))) (.c 5))])
  (.leaf [(.c 0)]))
  (.leaf [(.c 0)]))
  (.br (.b .eq .i64 (.w .i16 (.v 1)) (.b .padd .i64 (.b .rem .i64 (.v 1) (.c 65536)) (.c 65536)))
  (.br (.b .eq .i64 (.w .i64 (.f 13 (.v 3) (.c 28) (.c 0))) (.c 1))
  (.leaf [(.b .eq .i64 (.w .i64 (.b .padd .i64 (.w .i64 (.f 13 (.v 3) (.c 21) (.c 0))) (.c 3))) (.c 5))])
  (.leaf [(.c 0)]))
  (.leaf [(.c 0)])))
  (.br (.b .le .i64 (.c 32768) (.b .rem .i64 (.v 1) (.c 65536)))
  (.br (.b .eq .i64 (.w .i16 (.v 1)) (.b .psub .i64 (.b .rem .i64 (.v 1) (.c 65536)) (.c 65536)))
  (.br (.b .eq .i64 (.w .i64 (.f 13 (.v 3) (.c 28) (.c 0))) (.c 1))
  (.leaf [(.b .eq .i64 (.w .i64 (.b .padd .i64 (.w .i64 (.f 13 (.v 3) (.c 21) (.c 0))) (.c 3))) (.c 5))])
  (.leaf [(.c 0)]))
  (.leaf [(.c 0)]))
  (.br (.b .eq .i64 (.w .i16 (.v 1)) (.b .rem .i64 (.v 1) (.c 65536)))
  (.br (.b .eq .i64 (.w .i64 (.f 13 (.v 3) (.c 28) (.c 0))) (.c 1))
  (.leaf [(.b .eq .i64 (.w .i64 (.b .padd .i64 (.w .i64 (.f 13 (.v 3) (.c 21) (.c 0))) (.c 3))) (.c 5))])
  (.leaf [(.c 0)]))
  (.leaf [(.c 0)]))))
  (.br (.b .lt .i64 (.b .rem .i64 (.v 1) (.c 65536)) (.c 0))
  (.br (.b .le .i64 (.c 32768) (.b .padd .i64 (.b .rem .i64 (.v 1) (.c 65536)) (.c 65536)))
  (.br (.b .eq .i64 (.w .i16 (.v 1)) (.b .psub .i64 (.b .padd .i64 (.b .rem .i64 (.v 1) (.c 65536)) (.c 65536)) (.c 65536)))
  (.br (.b .eq .i64 (.w .i64 (.f 13 (.v 3) (.c 28) (.c 0))) (.c 1))
  (.leaf [(.b .eq .i64 (.w .i64 (.b .padd .i64 (.w .i64 (.f 13 (.v 3) (.c 21) (.c 0))) (.c 3))) (.c 5))])
  (.leaf [(.c 0)]))
  (.leaf [(.c 0)]))
  (.br (.b .eq .i64 (.w .i16 (.v 1)) (.b .padd .i64 (.b .rem .i64 (.v 1) (.c 65536)) (.c 65536)))
  (.br (.b .eq .i64 (.w .i64 (.f 13 (.v 3) (.c 28) (.c 0))) (.c 1))
  (.leaf [(.b .eq .i64 (.w .i64 (.b .padd .i64 (.w .i64 (.f 13 (.v 3) (.c 21) (.c 0))) (.c 3))) (.c 5))])
  (.leaf [(.c 0)]))
  (.leaf [(.c 0)])))
  (.br (.b .le .i64 (.c 32768) (.b .rem .i64 (.v 1) (.c 65536)))
  (.br (.b .eq .i64 (.w .i16 (.v 1)) (.b .psub .i64 (.b .rem .i64 (.v 1) (.c 65536)) (.c 65536)))
  (.br (.b .eq .i64 (.w .i64 (.f 13 (.v 3) (.c 28) (.c 0))) (.c 1))
  (.leaf [(.b .eq .i64 (.w .i64 (.b .padd .i64 (.w .i64 (.f 13 (.v 3) (.c 21) (.c 0))) (.c 3))) (.c 5))])
  (.leaf [(.c 0)]))
  (.leaf [(.c 0)]))
  (.br (.b .eq .i64 (.w .i16 (.v 1)) (.b .rem .i64 (.v 1) (.c 65536)))
  (.br (.b .eq .i64 (.w .i64 (.f 13 (.v 3) (.c 28) (.c 0))) (.c 1))
  (.leaf [(.b .eq .i64 (.w .i64 (.b .padd .i64 (.w .i64 (.f 13 (.v 3) (.c 21) (.c 0))) (.c 3))) (.c 5))])
  (.leaf [(.c 0)]))
  (.leaf [(.c 0)])))))

def P (a0 a1 a2 a3 : Int) : Prop :=
 (((bool01 (a2 == 0)) ≠ 0 →
  (((bool01 (decide ((BO.ev .rem .i64 a1 65536) < 0))) ≠ 0 →
   (((bool01 (decide (32768 ≤ ((BO.ev .rem .i64 a1 65536) + 65536)))) ≠ 0 →
    (((bool01 ((IntKind.wrap .i16 a1) == (((BO.ev .rem .i64 a1 65536) + 65536) - 65536))) ≠ 0 →
     (((bool01 ((IntKind.wrap .i64 (rdZ a3 28)) == 1)) ≠ 0 →
      ((bool01 ((IntKind.wrap .i64 ((IntKind.wrap .i64 (rdZ a3 21)) + 3)) == 5)) : Int) ≠ 0) ∧ ((bool01 ((IntKind.wrap .i64 (rdZ a3 28)) == 1)) = 0 →
      (0 : Int) ≠ 0))) ∧ ((bool01 ((IntKind.wrap .i16 a1) == (((BO.ev .rem .i64 a1 65536) + 65536) - 65536))) = 0 →
     (0 : Int) ≠ 0))) ∧ ((bool01 (decide (32768 ≤ ((BO.ev .rem .i64 a1 65536) + 65536)))) = 0 →
    (((bool01 ((IntKind.wrap .i16 a1) == ((BO.ev .rem .i64 a1 65536) + 65536))) ≠ 0 →
     (((bool01 ((IntKind.wrap .i64 (rdZ a3 28)) == 1)) ≠ 0 →
      ((bool01 ((IntKind.wrap .i64 ((IntKind.wrap .i64 (rdZ a3 21)) + 3)) == 5)) : Int) ≠ 0) ∧ ((bool01 ((IntKind.wrap .i64 (rdZ a3 28)) == 1)) = 0 →
      (0 : Int) ≠ 0))) ∧ ((bool01 ((IntKind.wrap .i16 a1) == ((BO.ev .rem .i64 a1 65536) + 65536))) = 0 →
     (0 : Int) ≠ 0))))) ∧ ((bool01 (decide ((BO.ev .rem .i64 a1 65536) < 0))) = 0 →
   (((bool01 (decide (32768 ≤ (BO.ev .rem .i64 a1 65536)))) ≠ 0 →
    (((bool01 ((IntKind.wrap .i16 a1) == ((BO.ev .rem .i64 a1 65536) - 65536))) ≠ 0 →
     (((bool01 ((IntKind.wrap .i64 (rdZ a3 28)) == 1)) ≠ 0 →
      ((bool01 ((IntKind.wrap .i64 ((IntKind.wrap .i64 (rdZ a3 21)) + 3)) == 5)) : Int) ≠ 0) ∧ ((bool01 ((IntKind.wrap .i64 (rdZ a3 28)) == 1)) = 0 →
      (0 : Int) ≠ 0))) ∧ ((bool01 ((IntKind.wrap .i16 a1) == ((BO.ev .rem .i64 a1 65536) - 65536))) = 0 →
     (0 : Int) ≠ 0))) ∧ ((bool01 (decide (32768 ≤ (BO.ev .rem .i64 a1 65536)))) = 0 →
    (((bool01 ((IntKind.wrap .i16 a1) == (BO.ev .rem .i64 a1 65536))) ≠ 0 →
     (((bool01 ((IntKind.wrap .i64 (rdZ a3 28)) == 1)) ≠ 0 →
      ((bool01 ((IntKind.wrap .i64 ((IntKind.wrap .i64 (rdZ a3 21)) + 3)) == 5)) : Int) ≠ 0) ∧ ((bool01 ((IntKind.wrap .i64 (rdZ a3 28)) == 1)) = 0 →
      (0 : Int) ≠ 0))) ∧ ((bool01 ((IntKind.wrap .i16 a1) == (BO.ev .rem .i64 a1 65536))) = 0 →
     (0 : Int) ≠ 0))))))) ∧ ((bool01 (a2 == 0)) = 0 →
  (((bool01 (decide ((BO.ev .rem .i64 a1 65536) < 0))) ≠ 0 →
   (((bool01 (decide (32768 ≤ ((BO.ev .rem .i64 a1 65536) + 65536)))) ≠ 0 →
    (((bool01 ((IntKind.wrap .i16 a1) == (((BO.ev .rem .i64 a1 65536) + 65536) - 65536))) ≠ 0 →
     (((bool01 ((IntKind.wrap .i64 (rdZ a3 28)) == 1)) ≠ 0 →
      ((bool01 ((IntKind.wrap .i64 ((IntKind.wrap .i64 (rdZ a3 21)) + 3)) == 5)) : Int) ≠ 0) ∧ ((bool01 ((IntKind.wrap .i64 (rdZ a3 28)) == 1)) = 0 →
      (0 : Int) ≠ 0))) ∧ ((bool01 ((IntKind.wrap .i16 a1) == (((BO.ev .rem .i64 a1 65536) + 65536) - 65536))) = 0 →
     (0 : Int) ≠ 0))) ∧ ((bool01 (decide (32768 ≤ ((BO.ev .rem .i64 a1 65536) + 65536)))) = 0 →
    (((bool01 ((IntKind.wrap .i16 a1) == ((BO.ev .rem .i64 a1 65536) + 65536))) ≠ 0 →
     (((bool01 ((IntKind.wrap .i64 (rdZ a3 28)) == 1)) ≠ 0 →
      ((bool01 ((IntKind.wrap .i64 ((IntKind.wrap .i64 (rdZ a3 21)) + 3)) == 5)) : Int) ≠ 0) ∧ ((bool01 ((IntKind.wrap .i64 (rdZ a3 28)) == 1)) = 0 →
      (0 : Int) ≠ 0))) ∧ ((bool01 ((IntKind.wrap .i16 a1) == ((BO.ev .rem .i64 a1 65536) + 65536))) = 0 →
     (0 : Int) ≠ 0))))) ∧ ((bool01 (decide ((BO.ev .rem .i64 a1 65536) < 0))) = 0 →
   (((bool01 (decide (32768 ≤ (BO.ev .rem .i64 a1 65536)))) ≠ 0 →
    (((bool01 ((IntKind.wrap .i16 a1) == ((BO.ev .rem .i64 a1 65536) - 65536))) ≠ 0 →
     (((bool01 ((IntKind.wrap .i64 (rdZ a3 28)) == 1)) ≠ 0 →
      ((bool01 ((IntKind.wrap .i64 ((IntKind.wrap .i64 (rdZ a3 21)) + 3)) == 5)) : Int) ≠ 0) ∧ ((bool01 ((IntKind.wrap .i64 (rdZ a3 28)) == 1)) = 0 →
      (0 : Int) ≠ 0))) ∧ ((bool01 ((IntKind.wrap .i16 a1) == ((BO.ev .rem .i64 a1 65536) - 65536))) = 0 →
     (0 : Int) ≠ 0))) ∧ ((bool01 (decide (32768 ≤ (BO.ev .rem .i64 a1 65536)))) = 0 →
    (((bool01 ((IntKind.wrap .i16 a1) == (BO.ev .rem .i64 a1 65536))) ≠ 0 →
     (((bool01 ((IntKind.wrap .i64 (rdZ a3 28)) == 1)) ≠ 0 →
      ((bool01 ((IntKind.wrap .i64 ((IntKind.wrap .i64 (rdZ a3 21)) + 3)) == 5)) : Int) ≠ 0) ∧ ((bool01 ((IntKind.wrap .i64 (rdZ a3 28)) == 1)) = 0 →
      (0 : Int) ≠ 0))) ∧ ((bool01 ((IntKind.wrap .i16 a1) == (BO.ev .rem .i64 a1 65536))) = 0 →
     (0 : Int) ≠ 0))))))))

theorem plain (a0 a1 a2 a3 : Int) (ro : List RO) : TT.hdP (cxOf 2 [(29, 29), (-2147483648, 2147483647), (-2147483648, 2147483647)] [⟨[.int .i64], .v 3, .c 43, .c 43, some 0⟩]) isOne tree (envR [a0, a1, a2, a3] ro) = P a0 a1 a2 a3 := by kernel_rfl

theorem holds (a0 a1 a2 : Int) (l0 : 29 ≤ a0) (u0 : a0 ≤ 29) (l1 : -2147483648 ≤ a1) (u1 : a1 ≤ 2147483647) (l2 : -2147483648 ≤ a2) (u2 : a2 ≤ 2147483647) : P a0 a1 a2 (LZ tab0) := by
  have h5 : (IntKind.wrap .i64 ((IntKind.wrap .i64 (rdZ (LZ tab0) 21)) + 3)) = 5 := by rw [rdZ_LZ]; decide
  have r1 : IntKind.wrap .i64 (rdZ (LZ tab0) (28)) = 1 := by rw [rdZ_LZ]; decide
  have hm : BO.ev .rem .i64 a1 65536 = a1.tmod 65536 := rfl
  have h3 := mod_pos (x := a1) (m := 65536) (by decide)
  have hw : IntKind.wrap .i16 a1 = if 32768 ≤ a1 % 65536 then a1 % 65536 - 65536 else a1 % 65536 := by
    simp [IntKind.wrap, IntKind.bits, IntKind.signed] <;> (try split) <;> omega
  unfold P
  simp only [hm, h5, r1]
  by_cases h : a1.tmod 65536 < 0
  · rw [if_pos h] at h3
    rw [h3]
    by_cases g : 32768 ≤ a1 % 65536
    · rw [if_pos g] at hw; simp [bool01, h, g, hw]
    · rw [if_neg g] at hw; simp [bool01, h, g, hw]
  · rw [if_neg h] at h3
    by_cases g : 32768 ≤ a1 % 65536
    · rw [if_pos g] at hw; simp [bool01, h, h3, g, hw, show ¬ a1 % 65536 < 0 by omega]
    · rw [if_neg g] at hw; simp [bool01, h, h3, g, hw, show ¬ a1 % 65536 < 0 by omega]

theorem ran : TT.beq (projL pjB (runA [(29, 29), (-2147483648, 2147483647), (-2147483648, 2147483647)] 3 [.int .i64 (.c 29), .int .i32 (.v 1), .int .i32 (.v 2)] ⟨[], []⟩)) tree = true := by kernel_rfl
theorem fineT : (TT.fine (cxOf 2 [(29, 29), (-2147483648, 2147483647), (-2147483648, 2147483647)] [⟨[.int .i64], .v 3, .c 43, .c 43, some 0⟩]) 1000 [] tree && (cxOf 2 [(29, 29), (-2147483648, 2147483647), (-2147483648, 2147483647)] [⟨[.int .i64], .v 3, .c 43, .c 43, some 0⟩]).okB 1000 && SV.vbL 1000 [.int .i64 (.c 29), .int .i32 (.v 1), .int .i32 (.v 2)] && TT.tidy (cxOf 2 [(29, 29), (-2147483648, 2147483647), (-2147483648, 2147483647)] [⟨[.int .i64], .v 3, .c 43, .c 43, some 0⟩]) [] tree) = true := by kernel_rfl
theorem walk (a0 a1 a2 : Int) (w0 : (Lit.int .i64 a0).wf = true) (w1 : (Lit.int .i32 a1).wf = true) (w2 : (Lit.int .i32 a2).wf = true) (w : World) (t0 : Lib.TabIs Tryz.prog w "astrolabe/ops.costs" .i64 tab0) (hc : 29 ≤ a0 ∧ a0 ≤ 29) :
    Calls Tryz.prog 3 #[.int .i64 a0, .int .i32 a1, .int .i32 a2] w fun e w' => e = .returned (.bool true) ∧ Below w.heap.size w w' :=
  lawT_of (runA_ok [(29, 29), (-2147483648, 2147483647), (-2147483648, 2147483647)]) (ρ := envR [a0, a1, a2, LZ tab0] [tabRo 0 .i64 tab0]) (envR_ok (cx := cxOf 2 [(29, 29), (-2147483648, 2147483647), (-2147483648, 2147483647)] [⟨[.int .i64], .v 3, .c 43, .c 43, some 0⟩]) rfl rfl (bnd_cons hc (bnd_cons (wf_bd w1) (bnd_cons (wf_bd w2) (bnd_nil _)))) ⟨⟨rfl, rfl, rfl, rfl, (fun h => by cases h), fun g h => by cases h; rfl⟩, trivial⟩) (f := 3) (args := [.int .i64 (.c 29), .int .i32 (.v 1), .int .i32 (.v 2)]) (t := tree) ran fineT
    (by rw [plain]; exact holds a0 a1 a2 hc.1 hc.2 (wf_bd w1).1 (wf_bd w1).2 (wf_bd w2).1 (wf_bd w2).2) (roOk_of ⟨tabRo_at t0 tabG0 tabW0, trivial⟩) (by obtain rfl : a0 = 29 := (by omega); rfl)

end c29

namespace c30
def tree : TT (List E) :=
(.br (.b .eq .i64 (.v 2) (.c 0))
  (.br (.b .eq .i64 (.w .i64 (.f 13 (.v 3) (.c 29) (.c 0))) (.c 1))
  (.leaf [(.b .eq .i64 (.w .i64 (.b .padd .i64 (.w .i64 (.f 13 (.v 3) (.c 21) (.c 0))) (.c 3))) (.c 5))])
  (.leaf [(.c 0)]))
  (.br (.b .eq .i64 (.w .i64 (.f 13 (.v 3) (.c 29) (.c 0))) (.c 1))
  (.leaf [(.b .eq .i64 (.w .i64 (.b .padd .i64 (.w .i64 (.f 13 (.v 3) (.c 21) (.c 0))) (.c 3))) (.c 5))])
  (.leaf [(.c 0)])))

def P (a0 a1 a2 a3 : Int) : Prop :=
 (((bool01 (a2 == 0)) ≠ 0 →
  (((bool01 ((IntKind.wrap .i64 (rdZ a3 29)) == 1)) ≠ 0 →
   ((bool01 ((IntKind.wrap .i64 ((IntKind.wrap .i64 (rdZ a3 21)) + 3)) == 5)) : Int) ≠ 0) ∧ ((bool01 ((IntKind.wrap .i64 (rdZ a3 29)) == 1)) = 0 →
   (0 : Int) ≠ 0))) ∧ ((bool01 (a2 == 0)) = 0 →
  (((bool01 ((IntKind.wrap .i64 (rdZ a3 29)) == 1)) ≠ 0 →
   ((bool01 ((IntKind.wrap .i64 ((IntKind.wrap .i64 (rdZ a3 21)) + 3)) == 5)) : Int) ≠ 0) ∧ ((bool01 ((IntKind.wrap .i64 (rdZ a3 29)) == 1)) = 0 →
   (0 : Int) ≠ 0))))

theorem plain (a0 a1 a2 a3 : Int) (ro : List RO) : TT.hdP (cxOf 2 [(30, 30), (-2147483648, 2147483647), (-2147483648, 2147483647)] [⟨[.int .i64], .v 3, .c 43, .c 43, some 0⟩]) isOne tree (envR [a0, a1, a2, a3] ro) = P a0 a1 a2 a3 := by kernel_rfl

theorem holds (a0 a1 a2 : Int) (l0 : 30 ≤ a0) (u0 : a0 ≤ 30) (l1 : -2147483648 ≤ a1) (u1 : a1 ≤ 2147483647) (l2 : -2147483648 ≤ a2) (u2 : a2 ≤ 2147483647) : P a0 a1 a2 (LZ tab0) := by
  have h5 : (IntKind.wrap .i64 ((IntKind.wrap .i64 (rdZ (LZ tab0) 21)) + 3)) = 5 := by rw [rdZ_LZ]; decide
  have r1 : 30 < 1 ∨ 43 < 30 ∨ IntKind.wrap .i64 (rdZ (LZ tab0) (29)) = 1 := by
    first
      | exact .inl (by decide)
      | exact .inr (.inl (by decide))
      | exact .inr (.inr (by rw [rdZ_LZ]; decide))
  unfold P
  first
    | (rcases r1 with r1 | r1 | r1 <;> simp [h5, r1, bool01]; done)
    | (simp [h5, bool01]; done)
    | (simp [h5] at *; simp_all [bool01]; done)

theorem ran : TT.beq (projL pjB (runA [(30, 30), (-2147483648, 2147483647), (-2147483648, 2147483647)] 3 [.int .i64 (.c 30), .int .i32 (.v 1), .int .i32 (.v 2)] ⟨[], []⟩)) tree = true := by kernel_rfl
theorem fineT : (TT.fine (cxOf 2 [(30, 30), (-2147483648, 2147483647), (-2147483648, 2147483647)] [⟨[.int .i64], .v 3, .c 43, .c 43, some 0⟩]) 1000 [] tree && (cxOf 2 [(30, 30), (-2147483648, 2147483647), (-2147483648, 2147483647)] [⟨[.int .i64], .v 3, .c 43, .c 43, some 0⟩]).okB 1000 && SV.vbL 1000 [.int .i64 (.c 30), .int .i32 (.v 1), .int .i32 (.v 2)] && TT.tidy (cxOf 2 [(30, 30), (-2147483648, 2147483647), (-2147483648, 2147483647)] [⟨[.int .i64], .v 3, .c 43, .c 43, some 0⟩]) [] tree) = true := by kernel_rfl
theorem walk (a0 a1 a2 : Int) (w0 : (Lit.int .i64 a0).wf = true) (w1 : (Lit.int .i32 a1).wf = true) (w2 : (Lit.int .i32 a2).wf = true) (w : World) (t0 : Lib.TabIs Tryz.prog w "astrolabe/ops.costs" .i64 tab0) (hc : 30 ≤ a0 ∧ a0 ≤ 30) :
    Calls Tryz.prog 3 #[.int .i64 a0, .int .i32 a1, .int .i32 a2] w fun e w' => e = .returned (.bool true) ∧ Below w.heap.size w w' :=
  lawT_of (runA_ok [(30, 30), (-2147483648, 2147483647), (-2147483648, 2147483647)]) (ρ := envR [a0, a1, a2, LZ tab0] [tabRo 0 .i64 tab0]) (envR_ok (cx := cxOf 2 [(30, 30), (-2147483648, 2147483647), (-2147483648, 2147483647)] [⟨[.int .i64], .v 3, .c 43, .c 43, some 0⟩]) rfl rfl (bnd_cons hc (bnd_cons (wf_bd w1) (bnd_cons (wf_bd w2) (bnd_nil _)))) ⟨⟨rfl, rfl, rfl, rfl, (fun h => by cases h), fun g h => by cases h; rfl⟩, trivial⟩) (f := 3) (args := [.int .i64 (.c 30), .int .i32 (.v 1), .int .i32 (.v 2)]) (t := tree) ran fineT
    (by rw [plain]; exact holds a0 a1 a2 hc.1 hc.2 (wf_bd w1).1 (wf_bd w1).2 (wf_bd w2).1 (wf_bd w2).2) (roOk_of ⟨tabRo_at t0 tabG0 tabW0, trivial⟩) (by obtain rfl : a0 = 30 := (by omega); rfl)

end c30

namespace c31
def tree : TT (List E) :=
(.br (.b .eq .i64 (.w .i64 (.f 13 (.v 3) (.c 30) (.c 0))) (.c 1))
  (.leaf [(.b .eq .i64 (.w .i64 (.b .padd .i64 (.w .i64 (.f 13 (.v 3) (.c 21) (.c 0))) (.c 3))) (.c 5))])
  (.leaf [(.c 0)]))

def P (a0 a1 a2 a3 : Int) : Prop :=
 (((bool01 ((IntKind.wrap .i64 (rdZ a3 30)) == 1)) ≠ 0 →
  ((bool01 ((IntKind.wrap .i64 ((IntKind.wrap .i64 (rdZ a3 21)) + 3)) == 5)) : Int) ≠ 0) ∧ ((bool01 ((IntKind.wrap .i64 (rdZ a3 30)) == 1)) = 0 →
  (0 : Int) ≠ 0))

theorem plain (a0 a1 a2 a3 : Int) (ro : List RO) : TT.hdP (cxOf 2 [(31, 31), (-2147483648, 2147483647), (-2147483648, 2147483647)] [⟨[.int .i64], .v 3, .c 43, .c 43, some 0⟩]) isOne tree (envR [a0, a1, a2, a3] ro) = P a0 a1 a2 a3 := by kernel_rfl

theorem holds (a0 a1 a2 : Int) (l0 : 31 ≤ a0) (u0 : a0 ≤ 31) (l1 : -2147483648 ≤ a1) (u1 : a1 ≤ 2147483647) (l2 : -2147483648 ≤ a2) (u2 : a2 ≤ 2147483647) : P a0 a1 a2 (LZ tab0) := by
  have h5 : (IntKind.wrap .i64 ((IntKind.wrap .i64 (rdZ (LZ tab0) 21)) + 3)) = 5 := by rw [rdZ_LZ]; decide
  have r1 : 31 < 1 ∨ 43 < 31 ∨ IntKind.wrap .i64 (rdZ (LZ tab0) (30)) = 1 := by
    first
      | exact .inl (by decide)
      | exact .inr (.inl (by decide))
      | exact .inr (.inr (by rw [rdZ_LZ]; decide))
  unfold P
  first
    | (rcases r1 with r1 | r1 | r1 <;> simp [h5, r1, bool01]; done)
    | (simp [h5, bool01]; done)
    | (simp [h5] at *; simp_all [bool01]; done)

theorem ran : TT.beq (projL pjB (runA [(31, 31), (-2147483648, 2147483647), (-2147483648, 2147483647)] 3 [.int .i64 (.c 31), .int .i32 (.v 1), .int .i32 (.v 2)] ⟨[], []⟩)) tree = true := by kernel_rfl
theorem fineT : (TT.fine (cxOf 2 [(31, 31), (-2147483648, 2147483647), (-2147483648, 2147483647)] [⟨[.int .i64], .v 3, .c 43, .c 43, some 0⟩]) 1000 [] tree && (cxOf 2 [(31, 31), (-2147483648, 2147483647), (-2147483648, 2147483647)] [⟨[.int .i64], .v 3, .c 43, .c 43, some 0⟩]).okB 1000 && SV.vbL 1000 [.int .i64 (.c 31), .int .i32 (.v 1), .int .i32 (.v 2)] && TT.tidy (cxOf 2 [(31, 31), (-2147483648, 2147483647), (-2147483648, 2147483647)] [⟨[.int .i64], .v 3, .c 43, .c 43, some 0⟩]) [] tree) = true := by kernel_rfl
theorem walk (a0 a1 a2 : Int) (w0 : (Lit.int .i64 a0).wf = true) (w1 : (Lit.int .i32 a1).wf = true) (w2 : (Lit.int .i32 a2).wf = true) (w : World) (t0 : Lib.TabIs Tryz.prog w "astrolabe/ops.costs" .i64 tab0) (hc : 31 ≤ a0 ∧ a0 ≤ 31) :
    Calls Tryz.prog 3 #[.int .i64 a0, .int .i32 a1, .int .i32 a2] w fun e w' => e = .returned (.bool true) ∧ Below w.heap.size w w' :=
  lawT_of (runA_ok [(31, 31), (-2147483648, 2147483647), (-2147483648, 2147483647)]) (ρ := envR [a0, a1, a2, LZ tab0] [tabRo 0 .i64 tab0]) (envR_ok (cx := cxOf 2 [(31, 31), (-2147483648, 2147483647), (-2147483648, 2147483647)] [⟨[.int .i64], .v 3, .c 43, .c 43, some 0⟩]) rfl rfl (bnd_cons hc (bnd_cons (wf_bd w1) (bnd_cons (wf_bd w2) (bnd_nil _)))) ⟨⟨rfl, rfl, rfl, rfl, (fun h => by cases h), fun g h => by cases h; rfl⟩, trivial⟩) (f := 3) (args := [.int .i64 (.c 31), .int .i32 (.v 1), .int .i32 (.v 2)]) (t := tree) ran fineT
    (by rw [plain]; exact holds a0 a1 a2 hc.1 hc.2 (wf_bd w1).1 (wf_bd w1).2 (wf_bd w2).1 (wf_bd w2).2) (roOk_of ⟨tabRo_at t0 tabG0 tabW0, trivial⟩) (by obtain rfl : a0 = 31 := (by omega); rfl)

end c31

namespace c32
def tree : TT (List E) :=
(.br (.b .eq .i64 (.w .i64 (.f 13 (.v 3) (.c 31) (.c 0))) (.c 1))
  (.leaf [(.b .eq .i64 (.w .i64 (.b .padd .i64 (.w .i64 (.f 13 (.v 3) (.c 21) (.c 0))) (.c 3))) (.c 5))])
  (.leaf [(.c 0)]))

def P (a0 a1 a2 a3 : Int) : Prop :=
 (((bool01 ((IntKind.wrap .i64 (rdZ a3 31)) == 1)) ≠ 0 →
  ((bool01 ((IntKind.wrap .i64 ((IntKind.wrap .i64 (rdZ a3 21)) + 3)) == 5)) : Int) ≠ 0) ∧ ((bool01 ((IntKind.wrap .i64 (rdZ a3 31)) == 1)) = 0 →
  (0 : Int) ≠ 0))

theorem plain (a0 a1 a2 a3 : Int) (ro : List RO) : TT.hdP (cxOf 2 [(32, 32), (-2147483648, 2147483647), (-2147483648, 2147483647)] [⟨[.int .i64], .v 3, .c 43, .c 43, some 0⟩]) isOne tree (envR [a0, a1, a2, a3] ro) = P a0 a1 a2 a3 := by kernel_rfl

theorem holds (a0 a1 a2 : Int) (l0 : 32 ≤ a0) (u0 : a0 ≤ 32) (l1 : -2147483648 ≤ a1) (u1 : a1 ≤ 2147483647) (l2 : -2147483648 ≤ a2) (u2 : a2 ≤ 2147483647) : P a0 a1 a2 (LZ tab0) := by
  have h5 : (IntKind.wrap .i64 ((IntKind.wrap .i64 (rdZ (LZ tab0) 21)) + 3)) = 5 := by rw [rdZ_LZ]; decide
  have r1 : 32 < 1 ∨ 43 < 32 ∨ IntKind.wrap .i64 (rdZ (LZ tab0) (31)) = 1 := by
    first
      | exact .inl (by decide)
      | exact .inr (.inl (by decide))
      | exact .inr (.inr (by rw [rdZ_LZ]; decide))
  unfold P
  first
    | (rcases r1 with r1 | r1 | r1 <;> simp [h5, r1, bool01]; done)
    | (simp [h5, bool01]; done)
    | (simp [h5] at *; simp_all [bool01]; done)

theorem ran : TT.beq (projL pjB (runA [(32, 32), (-2147483648, 2147483647), (-2147483648, 2147483647)] 3 [.int .i64 (.c 32), .int .i32 (.v 1), .int .i32 (.v 2)] ⟨[], []⟩)) tree = true := by kernel_rfl
theorem fineT : (TT.fine (cxOf 2 [(32, 32), (-2147483648, 2147483647), (-2147483648, 2147483647)] [⟨[.int .i64], .v 3, .c 43, .c 43, some 0⟩]) 1000 [] tree && (cxOf 2 [(32, 32), (-2147483648, 2147483647), (-2147483648, 2147483647)] [⟨[.int .i64], .v 3, .c 43, .c 43, some 0⟩]).okB 1000 && SV.vbL 1000 [.int .i64 (.c 32), .int .i32 (.v 1), .int .i32 (.v 2)] && TT.tidy (cxOf 2 [(32, 32), (-2147483648, 2147483647), (-2147483648, 2147483647)] [⟨[.int .i64], .v 3, .c 43, .c 43, some 0⟩]) [] tree) = true := by kernel_rfl
theorem walk (a0 a1 a2 : Int) (w0 : (Lit.int .i64 a0).wf = true) (w1 : (Lit.int .i32 a1).wf = true) (w2 : (Lit.int .i32 a2).wf = true) (w : World) (t0 : Lib.TabIs Tryz.prog w "astrolabe/ops.costs" .i64 tab0) (hc : 32 ≤ a0 ∧ a0 ≤ 32) :
    Calls Tryz.prog 3 #[.int .i64 a0, .int .i32 a1, .int .i32 a2] w fun e w' => e = .returned (.bool true) ∧ Below w.heap.size w w' :=
  lawT_of (runA_ok [(32, 32), (-2147483648, 2147483647), (-2147483648, 2147483647)]) (ρ := envR [a0, a1, a2, LZ tab0] [tabRo 0 .i64 tab0]) (envR_ok (cx := cxOf 2 [(32, 32), (-2147483648, 2147483647), (-2147483648, 2147483647)] [⟨[.int .i64], .v 3, .c 43, .c 43, some 0⟩]) rfl rfl (bnd_cons hc (bnd_cons (wf_bd w1) (bnd_cons (wf_bd w2) (bnd_nil _)))) ⟨⟨rfl, rfl, rfl, rfl, (fun h => by cases h), fun g h => by cases h; rfl⟩, trivial⟩) (f := 3) (args := [.int .i64 (.c 32), .int .i32 (.v 1), .int .i32 (.v 2)]) (t := tree) ran fineT
    (by rw [plain]; exact holds a0 a1 a2 hc.1 hc.2 (wf_bd w1).1 (wf_bd w1).2 (wf_bd w2).1 (wf_bd w2).2) (roOk_of ⟨tabRo_at t0 tabG0 tabW0, trivial⟩) (by obtain rfl : a0 = 32 := (by omega); rfl)

end c32

namespace c33
def tree : TT (List E) :=
(.br (.b .eq .i64 (.w .i64 (.f 13 (.v 3) (.c 32) (.c 0))) (.c 1))
  (.leaf [(.b .eq .i64 (.w .i64 (.b .padd .i64 (.w .i64 (.f 13 (.v 3) (.c 21) (.c 0))) (.c 3))) (.c 5))])
  (.leaf [(.c 0)]))

def P (a0 a1 a2 a3 : Int) : Prop :=
 (((bool01 ((IntKind.wrap .i64 (rdZ a3 32)) == 1)) ≠ 0 →
  ((bool01 ((IntKind.wrap .i64 ((IntKind.wrap .i64 (rdZ a3 21)) + 3)) == 5)) : Int) ≠ 0) ∧ ((bool01 ((IntKind.wrap .i64 (rdZ a3 32)) == 1)) = 0 →
  (0 : Int) ≠ 0))

theorem plain (a0 a1 a2 a3 : Int) (ro : List RO) : TT.hdP (cxOf 2 [(33, 33), (-2147483648, 2147483647), (-2147483648, 2147483647)] [⟨[.int .i64], .v 3, .c 43, .c 43, some 0⟩]) isOne tree (envR [a0, a1, a2, a3] ro) = P a0 a1 a2 a3 := by kernel_rfl

theorem holds (a0 a1 a2 : Int) (l0 : 33 ≤ a0) (u0 : a0 ≤ 33) (l1 : -2147483648 ≤ a1) (u1 : a1 ≤ 2147483647) (l2 : -2147483648 ≤ a2) (u2 : a2 ≤ 2147483647) : P a0 a1 a2 (LZ tab0) := by
  have h5 : (IntKind.wrap .i64 ((IntKind.wrap .i64 (rdZ (LZ tab0) 21)) + 3)) = 5 := by rw [rdZ_LZ]; decide
  have r1 : 33 < 1 ∨ 43 < 33 ∨ IntKind.wrap .i64 (rdZ (LZ tab0) (32)) = 1 := by
    first
      | exact .inl (by decide)
      | exact .inr (.inl (by decide))
      | exact .inr (.inr (by rw [rdZ_LZ]; decide))
  unfold P
  first
    | (rcases r1 with r1 | r1 | r1 <;> simp [h5, r1, bool01]; done)
    | (simp [h5, bool01]; done)
    | (simp [h5] at *; simp_all [bool01]; done)

theorem ran : TT.beq (projL pjB (runA [(33, 33), (-2147483648, 2147483647), (-2147483648, 2147483647)] 3 [.int .i64 (.c 33), .int .i32 (.v 1), .int .i32 (.v 2)] ⟨[], []⟩)) tree = true := by kernel_rfl
theorem fineT : (TT.fine (cxOf 2 [(33, 33), (-2147483648, 2147483647), (-2147483648, 2147483647)] [⟨[.int .i64], .v 3, .c 43, .c 43, some 0⟩]) 1000 [] tree && (cxOf 2 [(33, 33), (-2147483648, 2147483647), (-2147483648, 2147483647)] [⟨[.int .i64], .v 3, .c 43, .c 43, some 0⟩]).okB 1000 && SV.vbL 1000 [.int .i64 (.c 33), .int .i32 (.v 1), .int .i32 (.v 2)] && TT.tidy (cxOf 2 [(33, 33), (-2147483648, 2147483647), (-2147483648, 2147483647)] [⟨[.int .i64], .v 3, .c 43, .c 43, some 0⟩]) [] tree) = true := by kernel_rfl
theorem walk (a0 a1 a2 : Int) (w0 : (Lit.int .i64 a0).wf = true) (w1 : (Lit.int .i32 a1).wf = true) (w2 : (Lit.int .i32 a2).wf = true) (w : World) (t0 : Lib.TabIs Tryz.prog w "astrolabe/ops.costs" .i64 tab0) (hc : 33 ≤ a0 ∧ a0 ≤ 33) :
    Calls Tryz.prog 3 #[.int .i64 a0, .int .i32 a1, .int .i32 a2] w fun e w' => e = .returned (.bool true) ∧ Below w.heap.size w w' :=
  lawT_of (runA_ok [(33, 33), (-2147483648, 2147483647), (-2147483648, 2147483647)]) (ρ := envR [a0, a1, a2, LZ tab0] [tabRo 0 .i64 tab0]) (envR_ok (cx := cxOf 2 [(33, 33), (-2147483648, 2147483647), (-2147483648, 2147483647)] [⟨[.int .i64], .v 3, .c 43, .c 43, some 0⟩]) rfl rfl (bnd_cons hc (bnd_cons (wf_bd w1) (bnd_cons (wf_bd w2) (bnd_nil _)))) ⟨⟨rfl, rfl, rfl, rfl, (fun h => by cases h), fun g h => by cases h; rfl⟩, trivial⟩) (f := 3) (args := [.int .i64 (.c 33), .int .i32 (.v 1), .int .i32 (.v 2)]) (t := tree) ran fineT
    (by rw [plain]; exact holds a0 a1 a2 hc.1 hc.2 (wf_bd w1).1 (wf_bd w1).2 (wf_bd w2).1 (wf_bd w2).2) (roOk_of ⟨tabRo_at t0 tabG0 tabW0, trivial⟩) (by obtain rfl : a0 = 33 := (by omega); rfl)

end c33

namespace c34
def tree : TT (List E) :=
(.br (.b .eq .i64 (.w .i64 (.f 13 (.v 3) (.c 33) (.c 0))) (.c 2))
  (.leaf [(.b .eq .i64 (.w .i64 (.b .padd .i64 (.w .i64 (.f 13 (.v 3) (.c 21) (.c 0))) (.c 3))) (.c 5))])
  (.leaf [(.c 0)]))

def P (a0 a1 a2 a3 : Int) : Prop :=
 (((bool01 ((IntKind.wrap .i64 (rdZ a3 33)) == 2)) ≠ 0 →
  ((bool01 ((IntKind.wrap .i64 ((IntKind.wrap .i64 (rdZ a3 21)) + 3)) == 5)) : Int) ≠ 0) ∧ ((bool01 ((IntKind.wrap .i64 (rdZ a3 33)) == 2)) = 0 →
  (0 : Int) ≠ 0))

theorem plain (a0 a1 a2 a3 : Int) (ro : List RO) : TT.hdP (cxOf 2 [(34, 34), (-2147483648, 2147483647), (-2147483648, 2147483647)] [⟨[.int .i64], .v 3, .c 43, .c 43, some 0⟩]) isOne tree (envR [a0, a1, a2, a3] ro) = P a0 a1 a2 a3 := by kernel_rfl

theorem holds (a0 a1 a2 : Int) (l0 : 34 ≤ a0) (u0 : a0 ≤ 34) (l1 : -2147483648 ≤ a1) (u1 : a1 ≤ 2147483647) (l2 : -2147483648 ≤ a2) (u2 : a2 ≤ 2147483647) : P a0 a1 a2 (LZ tab0) := by
  have h5 : (IntKind.wrap .i64 ((IntKind.wrap .i64 (rdZ (LZ tab0) 21)) + 3)) = 5 := by rw [rdZ_LZ]; decide
  have r1 : 34 < 1 ∨ 43 < 34 ∨ IntKind.wrap .i64 (rdZ (LZ tab0) (33)) = 2 := by
    first
      | exact .inl (by decide)
      | exact .inr (.inl (by decide))
      | exact .inr (.inr (by rw [rdZ_LZ]; decide))
  unfold P
  first
    | (rcases r1 with r1 | r1 | r1 <;> simp [h5, r1, bool01]; done)
    | (simp [h5, bool01]; done)
    | (simp [h5] at *; simp_all [bool01]; done)

theorem ran : TT.beq (projL pjB (runA [(34, 34), (-2147483648, 2147483647), (-2147483648, 2147483647)] 3 [.int .i64 (.c 34), .int .i32 (.v 1), .int .i32 (.v 2)] ⟨[], []⟩)) tree = true := by kernel_rfl
theorem fineT : (TT.fine (cxOf 2 [(34, 34), (-2147483648, 2147483647), (-2147483648, 2147483647)] [⟨[.int .i64], .v 3, .c 43, .c 43, some 0⟩]) 1000 [] tree && (cxOf 2 [(34, 34), (-2147483648, 2147483647), (-2147483648, 2147483647)] [⟨[.int .i64], .v 3, .c 43, .c 43, some 0⟩]).okB 1000 && SV.vbL 1000 [.int .i64 (.c 34), .int .i32 (.v 1), .int .i32 (.v 2)] && TT.tidy (cxOf 2 [(34, 34), (-2147483648, 2147483647), (-2147483648, 2147483647)] [⟨[.int .i64], .v 3, .c 43, .c 43, some 0⟩]) [] tree) = true := by kernel_rfl
theorem walk (a0 a1 a2 : Int) (w0 : (Lit.int .i64 a0).wf = true) (w1 : (Lit.int .i32 a1).wf = true) (w2 : (Lit.int .i32 a2).wf = true) (w : World) (t0 : Lib.TabIs Tryz.prog w "astrolabe/ops.costs" .i64 tab0) (hc : 34 ≤ a0 ∧ a0 ≤ 34) :
    Calls Tryz.prog 3 #[.int .i64 a0, .int .i32 a1, .int .i32 a2] w fun e w' => e = .returned (.bool true) ∧ Below w.heap.size w w' :=
  lawT_of (runA_ok [(34, 34), (-2147483648, 2147483647), (-2147483648, 2147483647)]) (ρ := envR [a0, a1, a2, LZ tab0] [tabRo 0 .i64 tab0]) (envR_ok (cx := cxOf 2 [(34, 34), (-2147483648, 2147483647), (-2147483648, 2147483647)] [⟨[.int .i64], .v 3, .c 43, .c 43, some 0⟩]) rfl rfl (bnd_cons hc (bnd_cons (wf_bd w1) (bnd_cons (wf_bd w2) (bnd_nil _)))) ⟨⟨rfl, rfl, rfl, rfl, (fun h => by cases h), fun g h => by cases h; rfl⟩, trivial⟩) (f := 3) (args := [.int .i64 (.c 34), .int .i32 (.v 1), .int .i32 (.v 2)]) (t := tree) ran fineT
    (by rw [plain]; exact holds a0 a1 a2 hc.1 hc.2 (wf_bd w1).1 (wf_bd w1).2 (wf_bd w2).1 (wf_bd w2).2) (roOk_of ⟨tabRo_at t0 tabG0 tabW0, trivial⟩) (by obtain rfl : a0 = 34 := (by omega); rfl)

end c34

namespace c35
def tree : TT (List E) :=
(.br (.b .eq .i64 (.w .i64 (.f 13 (.v 3) (.c 34) (.c 0))) (.c 2))
  (.leaf [(.b .eq .i64 (.w .i64 (.b .padd .i64 (.w .i64 (.f 13 (.v 3) (.c 21) (.c 0))) (.c 3))) (.c 5))])
  (.leaf [(.c 0)]))

def P (a0 a1 a2 a3 : Int) : Prop :=
 (((bool01 ((IntKind.wrap .i64 (rdZ a3 34)) == 2)) ≠ 0 →
  ((bool01 ((IntKind.wrap .i64 ((IntKind.wrap .i64 (rdZ a3 21)) + 3)) == 5)) : Int) ≠ 0) ∧ ((bool01 ((IntKind.wrap .i64 (rdZ a3 34)) == 2)) = 0 →
  (0 : Int) ≠ 0))

theorem plain (a0 a1 a2 a3 : Int) (ro : List RO) : TT.hdP (cxOf 2 [(35, 35), (-2147483648, 2147483647), (-2147483648, 2147483647)] [⟨[.int .i64], .v 3, .c 43, .c 43, some 0⟩]) isOne tree (envR [a0, a1, a2, a3] ro) = P a0 a1 a2 a3 := by kernel_rfl

theorem holds (a0 a1 a2 : Int) (l0 : 35 ≤ a0) (u0 : a0 ≤ 35) (l1 : -2147483648 ≤ a1) (u1 : a1 ≤ 2147483647) (l2 : -2147483648 ≤ a2) (u2 : a2 ≤ 2147483647) : P a0 a1 a2 (LZ tab0) := by
  have h5 : (IntKind.wrap .i64 ((IntKind.wrap .i64 (rdZ (LZ tab0) 21)) + 3)) = 5 := by rw [rdZ_LZ]; decide
  have r1 : 35 < 1 ∨ 43 < 35 ∨ IntKind.wrap .i64 (rdZ (LZ tab0) (34)) = 2 := by
    first
      | exact .inl (by decide)
      | exact .inr (.inl (by decide))
      | exact .inr (.inr (by rw [rdZ_LZ]; decide))
  unfold P
  first
    | (rcases r1 with r1 | r1 | r1 <;> simp [h5, r1, bool01]; done)
    | (simp [h5, bool01]; done)
    | (simp [h5] at *; simp_all [bool01]; done)

theorem ran : TT.beq (projL pjB (runA [(35, 35), (-2147483648, 2147483647), (-2147483648, 2147483647)] 3 [.int .i64 (.c 35), .int .i32 (.v 1), .int .i32 (.v 2)] ⟨[], []⟩)) tree = true := by kernel_rfl
theorem fineT : (TT.fine (cxOf 2 [(35, 35), (-2147483648, 2147483647), (-2147483648, 2147483647)] [⟨[.int .i64], .v 3, .c 43, .c 43, some 0⟩]) 1000 [] tree && (cxOf 2 [(35, 35), (-2147483648, 2147483647), (-2147483648, 2147483647)] [⟨[.int .i64], .v 3, .c 43, .c 43, some 0⟩]).okB 1000 && SV.vbL 1000 [.int .i64 (.c 35), .int .i32 (.v 1), .int .i32 (.v 2)] && TT.tidy (cxOf 2 [(35, 35), (-2147483648, 2147483647), (-2147483648, 2147483647)] [⟨[.int .i64], .v 3, .c 43, .c 43, some 0⟩]) [] tree) = true := by kernel_rfl
theorem walk (a0 a1 a2 : Int) (w0 : (Lit.int .i64 a0).wf = true) (w1 : (Lit.int .i32 a1).wf = true) (w2 : (Lit.int .i32 a2).wf = true) (w : World) (t0 : Lib.TabIs Tryz.prog w "astrolabe/ops.costs" .i64 tab0) (hc : 35 ≤ a0 ∧ a0 ≤ 35) :
    Calls Tryz.prog 3 #[.int .i64 a0, .int .i32 a1, .int .i32 a2] w fun e w' => e = .returned (.bool true) ∧ Below w.heap.size w w' :=
  lawT_of (runA_ok [(35, 35), (-2147483648, 2147483647), (-2147483648, 2147483647)]) (ρ := envR [a0, a1, a2, LZ tab0] [tabRo 0 .i64 tab0]) (envR_ok (cx := cxOf 2 [(35, 35), (-2147483648, 2147483647), (-2147483648, 2147483647)] [⟨[.int .i64], .v 3, .c 43, .c 43, some 0⟩]) rfl rfl (bnd_cons hc (bnd_cons (wf_bd w1) (bnd_cons (wf_bd w2) (bnd_nil _)))) ⟨⟨rfl, rfl, rfl, rfl, (fun h => by cases h), fun g h => by cases h; rfl⟩, trivial⟩) (f := 3) (args := [.int .i64 (.c 35), .int .i32 (.v 1), .int .i32 (.v 2)]) (t := tree) ran fineT
    (by rw [plain]; exact holds a0 a1 a2 hc.1 hc.2 (wf_bd w1).1 (wf_bd w1).2 (wf_bd w2).1 (wf_bd w2).2) (roOk_of ⟨tabRo_at t0 tabG0 tabW0, trivial⟩) (by obtain rfl : a0 = 35 := (by omega); rfl)

end c35

namespace c36
def tree : TT (List E) :=
(.br (.b .eq .i64 (.w .i64 (.f 13 (.v 3) (.c 35) (.c 0))) (.c 1))
  (.leaf [(.b .eq .i64 (.w .i64 (.b .padd .i64 (.w .i64 (.f 13 (.v 3) (.c 21) (.c 0))) (.c 3))) (.c 5))])
  (.leaf [(.c 0)]))

def P (a0 a1 a2 a3 : Int) : Prop :=
 (((bool01 ((IntKind.wrap .i64 (rdZ a3 35)) == 1)) ≠ 0 →
  ((bool01 ((IntKind.wrap .i64 ((IntKind.wrap .i64 (rdZ a3 21)) + 3)) == 5)) : Int) ≠ 0) ∧ ((bool01 ((IntKind.wrap .i64 (rdZ a3 35)) == 1)) = 0 →
  (0 : Int) ≠ 0))

theorem plain (a0 a1 a2 a3 : Int) (ro : List RO) : TT.hdP (cxOf 2 [(36, 36), (-2147483648, 2147483647), (-2147483648, 2147483647)] [⟨[.int .i64], .v 3, .c 43, .c 43, some 0⟩]) isOne tree (envR [a0, a1, a2, a3] ro) = P a0 a1 a2 a3 := by kernel_rfl

theorem holds (a0 a1 a2 : Int) (l0 : 36 ≤ a0) (u0 : a0 ≤ 36) (l1 : -2147483648 ≤ a1) (u1 : a1 ≤ 2147483647) (l2 : -2147483648 ≤ a2) (u2 : a2 ≤ 2147483647) : P a0 a1 a2 (LZ tab0) := by
  have h5 : (IntKind.wrap .i64 ((IntKind.wrap .i64 (rdZ (LZ tab0) 21)) + 3)) = 5 := by rw [rdZ_LZ]; decide
  have r1 : 36 < 1 ∨ 43 < 36 ∨ IntKind.wrap .i64 (rdZ (LZ tab0) (35)) = 1 := by
    first
      | exact .inl (by decide)
      | exact .inr (.inl (by decide))
      | exact .inr (.inr (by rw [rdZ_LZ]; decide))
  unfold P
  first
    | (rcases r1 with r1 | r1 | r1 <;> simp [h5, r1, bool01]; done)
    | (simp [h5, bool01]; done)
    | (simp [h5] at *; simp_all [bool01]; done)

theorem ran : TT.beq (projL pjB (runA [(36, 36), (-2147483648, 2147483647), (-2147483648, 2147483647)] 3 [.int .i64 (.c 36), .int .i32 (.v 1), .int .i32 (.v 2)] ⟨[], []⟩)) tree = true := by kernel_rfl
theorem fineT : (TT.fine (cxOf 2 [(36, 36), (-2147483648, 2147483647), (-2147483648, 2147483647)] [⟨[.int .i64], .v 3, .c 43, .c 43, some 0⟩]) 1000 [] tree && (cxOf 2 [(36, 36), (-2147483648, 2147483647), (-2147483648, 2147483647)] [⟨[.int .i64], .v 3, .c 43, .c 43, some 0⟩]).okB 1000 && SV.vbL 1000 [.int .i64 (.c 36), .int .i32 (.v 1), .int .i32 (.v 2)] && TT.tidy (cxOf 2 [(36, 36), (-2147483648, 2147483647), (-2147483648, 2147483647)] [⟨[.int .i64], .v 3, .c 43, .c 43, some 0⟩]) [] tree) = true := by kernel_rfl
theorem walk (a0 a1 a2 : Int) (w0 : (Lit.int .i64 a0).wf = true) (w1 : (Lit.int .i32 a1).wf = true) (w2 : (Lit.int .i32 a2).wf = true) (w : World) (t0 : Lib.TabIs Tryz.prog w "astrolabe/ops.costs" .i64 tab0) (hc : 36 ≤ a0 ∧ a0 ≤ 36) :
    Calls Tryz.prog 3 #[.int .i64 a0, .int .i32 a1, .int .i32 a2] w fun e w' => e = .returned (.bool true) ∧ Below w.heap.size w w' :=
  lawT_of (runA_ok [(36, 36), (-2147483648, 2147483647), (-2147483648, 2147483647)]) (ρ := envR [a0, a1, a2, LZ tab0] [tabRo 0 .i64 tab0]) (envR_ok (cx := cxOf 2 [(36, 36), (-2147483648, 2147483647), (-2147483648, 2147483647)] [⟨[.int .i64], .v 3, .c 43, .c 43, some 0⟩]) rfl rfl (bnd_cons hc (bnd_cons (wf_bd w1) (bnd_cons (wf_bd w2) (bnd_nil _)))) ⟨⟨rfl, rfl, rfl, rfl, (fun h => by cases h), fun g h => by cases h; rfl⟩, trivial⟩) (f := 3) (args := [.int .i64 (.c 36), .int .i32 (.v 1), .int .i32 (.v 2)]) (t := tree) ran fineT
    (by rw [plain]; exact holds a0 a1 a2 hc.1 hc.2 (wf_bd w1).1 (wf_bd w1).2 (wf_bd w2).1 (wf_bd w2).2) (roOk_of ⟨tabRo_at t0 tabG0 tabW0, trivial⟩) (by obtain rfl : a0 = 36 := (by omega); rfl)

end c36

namespace c37
def tree : TT (List E) :=
(.br (.b .eq .i64 (.w .i64 (.f 13 (.v 3) (.c 36) (.c 0))) (.c 1))
  (.leaf [(.b .eq .i64 (.w .i64 (.b .padd .i64 (.w .i64 (.f 13 (.v 3) (.c 21) (.c 0))) (.c 3))) (.c 5))])
  (.leaf [(.c 0)]))

def P (a0 a1 a2 a3 : Int) : Prop :=
 (((bool01 ((IntKind.wrap .i64 (rdZ a3 36)) == 1)) ≠ 0 →
  ((bool01 ((IntKind.wrap .i64 ((IntKind.wrap .i64 (rdZ a3 21)) + 3)) == 5)) : Int) ≠ 0) ∧ ((bool01 ((IntKind.wrap .i64 (rdZ a3 36)) == 1)) = 0 →
  (0 : Int) ≠ 0))

theorem plain (a0 a1 a2 a3 : Int) (ro : List RO) : TT.hdP (cxOf 2 [(37, 37), (-2147483648, 2147483647), (-2147483648, 2147483647)] [⟨[.int .i64], .v 3, .c 43, .c 43, some 0⟩]) isOne tree (envR [a0, a1, a2, a3] ro) = P a0 a1 a2 a3 := by kernel_rfl

theorem holds (a0 a1 a2 : Int) (l0 : 37 ≤ a0) (u0 : a0 ≤ 37) (l1 : -2147483648 ≤ a1) (u1 : a1 ≤ 2147483647) (l2 : -2147483648 ≤ a2) (u2 : a2 ≤ 2147483647) : P a0 a1 a2 (LZ tab0) := by
  have h5 : (IntKind.wrap .i64 ((IntKind.wrap .i64 (rdZ (LZ tab0) 21)) + 3)) = 5 := by rw [rdZ_LZ]; decide
  have r1 : 37 < 1 ∨ 43 < 37 ∨ IntKind.wrap .i64 (rdZ (LZ tab0) (36)) = 1 := by
    first
      | exact .inl (by decide)
      | exact .inr (.inl (by decide))
      | exact .inr (.inr (by rw [rdZ_LZ]; decide))
  unfold P
  first
    | (rcases r1 with r1 | r1 | r1 <;> simp [h5, r1, bool01]; done)
    | (simp [h5, bool01]; done)
    | (simp [h5] at *; simp_all [bool01]; done)

theorem ran : TT.beq (projL pjB (runA [(37, 37), (-2147483648, 2147483647), (-2147483648, 2147483647)] 3 [.int .i64 (.c 37), .int .i32 (.v 1), .int .i32 (.v 2)] ⟨[], []⟩)) tree = true := by kernel_rfl
theorem fineT : (TT.fine (cxOf 2 [(37, 37), (-2147483648, 2147483647), (-2147483648, 2147483647)] [⟨[.int .i64], .v 3, .c 43, .c 43, some 0⟩]) 1000 [] tree && (cxOf 2 [(37, 37), (-2147483648, 2147483647), (-2147483648, 2147483647)] [⟨[.int .i64], .v 3, .c 43, .c 43, some 0⟩]).okB 1000 && SV.vbL 1000 [.int .i64 (.c 37), .int .i32 (.v 1), .int .i32 (.v 2)] && TT.tidy (cxOf 2 [(37, 37), (-2147483648, 2147483647), (-2147483648, 2147483647)] [⟨[.int .i64], .v 3, .c 43, .c 43, some 0⟩]) [] tree) = true := by kernel_rfl
theorem walk (a0 a1 a2 : Int) (w0 : (Lit.int .i64 a0).wf = true) (w1 : (Lit.int .i32 a1).wf = true) (w2 : (Lit.int .i32 a2).wf = true) (w : World) (t0 : Lib.TabIs Tryz.prog w "astrolabe/ops.costs" .i64 tab0) (hc : 37 ≤ a0 ∧ a0 ≤ 37) :
    Calls Tryz.prog 3 #[.int .i64 a0, .int .i32 a1, .int .i32 a2] w fun e w' => e = .returned (.bool true) ∧ Below w.heap.size w w' :=
  lawT_of (runA_ok [(37, 37), (-2147483648, 2147483647), (-2147483648, 2147483647)]) (ρ := envR [a0, a1, a2, LZ tab0] [tabRo 0 .i64 tab0]) (envR_ok (cx := cxOf 2 [(37, 37), (-2147483648, 2147483647), (-2147483648, 2147483647)] [⟨[.int .i64], .v 3, .c 43, .c 43, some 0⟩]) rfl rfl (bnd_cons hc (bnd_cons (wf_bd w1) (bnd_cons (wf_bd w2) (bnd_nil _)))) ⟨⟨rfl, rfl, rfl, rfl, (fun h => by cases h), fun g h => by cases h; rfl⟩, trivial⟩) (f := 3) (args := [.int .i64 (.c 37), .int .i32 (.v 1), .int .i32 (.v 2)]) (t := tree) ran fineT
    (by rw [plain]; exact holds a0 a1 a2 hc.1 hc.2 (wf_bd w1).1 (wf_bd w1).2 (wf_bd w2).1 (wf_bd w2).2) (roOk_of ⟨tabRo_at t0 tabG0 tabW0, trivial⟩) (by obtain rfl : a0 = 37 := (by omega); rfl)

end c37

namespace c38
def tree : TT (List E) :=
(.br (.b .eq .i64 (.w .i64 (.f 13 (.v 3) (.c 37) (.c 0))) (.c 1))
  (.leaf [(.b .eq .i64 (.w .i64 (.b .padd .i64 (.w .i64 (.f 13 (.v 3) (.c 21) (.c 0))) (.c 3))) (.c 5))])
  (.leaf [(.c 0)]))

def P (a0 a1 a2 a3 : Int) : Prop :=
 (((bool01 ((IntKind.wrap .i64 (rdZ a3 37)) == 1)) ≠ 0 →
  ((bool01 ((IntKind.wrap .i64 ((IntKind.wrap .i64 (rdZ a3 21)) + 3)) == 5)) : Int) ≠ 0) ∧ ((bool01 ((IntKind.wrap .i64 (rdZ a3 37)) == 1)) = 0 →
  (0 : Int) ≠ 0))

theorem plain (a0 a1 a2 a3 : Int) (ro : List RO) : TT.hdP (cxOf 2 [(38, 38), (-2147483648, 2147483647), (-2147483648, 2147483647)] [⟨[.int .i64], .v 3, .c 43, .c 43, some 0⟩]) isOne tree (envR [a0, a1, a2, a3] ro) = P a0 a1 a2 a3 := by kernel_rfl

theorem holds (a0 a1 a2 : Int) (l0 : 38 ≤ a0) (u0 : a0 ≤ 38) (l1 : -2147483648 ≤ a1) (u1 : a1 ≤ 2147483647) (l2 : -2147483648 ≤ a2) (u2 : a2 ≤ 2147483647) : P a0 a1 a2 (LZ tab0) := by
  have h5 : (IntKind.wrap .i64 ((IntKind.wrap .i64 (rdZ (LZ tab0) 21)) + 3)) = 5 := by rw [rdZ_LZ]; decide
  have r1 : 38 < 1 ∨ 43 < 38 ∨ IntKind.wrap .i64 (rdZ (LZ tab0) (37)) = 1 := by
    first
      | exact .inl (by decide)
      | exact .inr (.inl (by decide))
      | exact .inr (.inr (by rw [rdZ_LZ]; decide))
  unfold P
  first
    | (rcases r1 with r1 | r1 | r1 <;> simp [h5, r1, bool01]; done)
    | (simp [h5, bool01]; done)
    | (simp [h5] at *; simp_all [bool01]; done)

theorem ran : TT.beq (projL pjB (runA [(38, 38), (-2147483648, 2147483647), (-2147483648, 2147483647)] 3 [.int .i64 (.c 38), .int .i32 (.v 1), .int .i32 (.v 2)] ⟨[], []⟩)) tree = true := by kernel_rfl
theorem fineT : (TT.fine (cxOf 2 [(38, 38), (-2147483648, 2147483647), (-2147483648, 2147483647)] [⟨[.int .i64], .v 3, .c 43, .c 43, some 0⟩]) 1000 [] tree && (cxOf 2 [(38, 38), (-2147483648, 2147483647), (-2147483648, 2147483647)] [⟨[.int .i64], .v 3, .c 43, .c 43, some 0⟩]).okB 1000 && SV.vbL 1000 [.int .i64 (.c 38), .int .i32 (.v 1), .int .i32 (.v 2)] && TT.tidy (cxOf 2 [(38, 38), (-2147483648, 2147483647), (-2147483648, 2147483647)] [⟨[.int .i64], .v 3, .c 43, .c 43, some 0⟩]) [] tree) = true := by kernel_rfl
theorem walk (a0 a1 a2 : Int) (w0 : (Lit.int .i64 a0).wf = true) (w1 : (Lit.int .i32 a1).wf = true) (w2 : (Lit.int .i32 a2).wf = true) (w : World) (t0 : Lib.TabIs Tryz.prog w "astrolabe/ops.costs" .i64 tab0) (hc : 38 ≤ a0 ∧ a0 ≤ 38) :
    Calls Tryz.prog 3 #[.int .i64 a0, .int .i32 a1, .int .i32 a2] w fun e w' => e = .returned (.bool true) ∧ Below w.heap.size w w' :=
  lawT_of (runA_ok [(38, 38), (-2147483648, 2147483647), (-2147483648, 2147483647)]) (ρ := envR [a0, a1, a2, LZ tab0] [tabRo 0 .i64 tab0]) (envR_ok (cx := cxOf 2 [(38, 38), (-2147483648, 2147483647), (-2147483648, 2147483647)] [⟨[.int .i64], .v 3, .c 43, .c 43, some 0⟩]) rfl rfl (bnd_cons hc (bnd_cons (wf_bd w1) (bnd_cons (wf_bd w2) (bnd_nil _)))) ⟨⟨rfl, rfl, rfl, rfl, (fun h => by cases h), fun g h => by cases h; rfl⟩, trivial⟩) (f := 3) (args := [.int .i64 (.c 38), .int .i32 (.v 1), .int .i32 (.v 2)]) (t := tree) ran fineT
    (by rw [plain]; exact holds a0 a1 a2 hc.1 hc.2 (wf_bd w1).1 (wf_bd w1).2 (wf_bd w2).1 (wf_bd w2).2) (roOk_of ⟨tabRo_at t0 tabG0 tabW0, trivial⟩) (by obtain rfl : a0 = 38 := (by omega); rfl)

end c38

namespace c39
def tree : TT (List E) :=
(.br (.b .eq .i64 (.w .i64 (.f 13 (.v 3) (.c 38) (.c 0))) (.c 3))
  (.leaf [(.b .eq .i64 (.w .i64 (.b .padd .i64 (.w .i64 (.f 13 (.v 3) (.c 21) (.c 0))) (.c 3))) (.c 5))])
  (.leaf [(.c 0)]))

def P (a0 a1 a2 a3 : Int) : Prop :=
 (((bool01 ((IntKind.wrap .i64 (rdZ a3 38)) == 3)) ≠ 0 →
  ((bool01 ((IntKind.wrap .i64 ((IntKind.wrap .i64 (rdZ a3 21)) + 3)) == 5)) : Int) ≠ 0) ∧ ((bool01 ((IntKind.wrap .i64 (rdZ a3 38)) == 3)) = 0 →
  (0 : Int) ≠ 0))

theorem plain (a0 a1 a2 a3 : Int) (ro : List RO) : TT.hdP (cxOf 2 [(39, 39), (-2147483648, 2147483647), (-2147483648, 2147483647)] [⟨[.int .i64], .v 3, .c 43, .c 43, some 0⟩]) isOne tree (envR [a0, a1, a2, a3] ro) = P a0 a1 a2 a3 := by kernel_rfl

theorem holds (a0 a1 a2 : Int) (l0 : 39 ≤ a0) (u0 : a0 ≤ 39) (l1 : -2147483648 ≤ a1) (u1 : a1 ≤ 2147483647) (l2 : -2147483648 ≤ a2) (u2 : a2 ≤ 2147483647) : P a0 a1 a2 (LZ tab0) := by
  have h5 : (IntKind.wrap .i64 ((IntKind.wrap .i64 (rdZ (LZ tab0) 21)) + 3)) = 5 := by rw [rdZ_LZ]; decide
  have r1 : 39 < 1 ∨ 43 < 39 ∨ IntKind.wrap .i64 (rdZ (LZ tab0) (38)) = 3 := by
    first
      | exact .inl (by decide)
      | exact .inr (.inl (by decide))
      | exact .inr (.inr (by rw [rdZ_LZ]; decide))
  unfold P
  first
    | (rcases r1 with r1 | r1 | r1 <;> simp [h5, r1, bool01]; done)
    | (simp [h5, bool01]; done)
    | (simp [h5] at *; simp_all [bool01]; done)

theorem ran : TT.beq (projL pjB (runA [(39, 39), (-2147483648, 2147483647), (-2147483648, 2147483647)] 3 [.int .i64 (.c 39), .int .i32 (.v 1), .int .i32 (.v 2)] ⟨[], []⟩)) tree = true := by kernel_rfl
theorem fineT : (TT.fine (cxOf 2 [(39, 39), (-2147483648, 2147483647), (-2147483648, 2147483647)] [⟨[.int .i64], .v 3, .c 43, .c 43, some 0⟩]) 1000 [] tree && (cxOf 2 [(39, 39), (-2147483648, 2147483647), (-2147483648, 2147483647)] [⟨[.int .i64], .v 3, .c 43, .c 43, some 0⟩]).okB 1000 && SV.vbL 1000 [.int .i64 (.c 39), .int .i32 (.v 1), .int .i32 (.v 2)] && TT.tidy (cxOf 2 [(39, 39), (-2147483648, 2147483647), (-2147483648, 2147483647)] [⟨[.int .i64], .v 3, .c 43, .c 43, some 0⟩]) [] tree) = true := by kernel_rfl
theorem walk (a0 a1 a2 : Int) (w0 : (Lit.int .i64 a0).wf = true) (w1 : (Lit.int .i32 a1).wf = true) (w2 : (Lit.int .i32 a2).wf = true) (w : World) (t0 : Lib.TabIs Tryz.prog w "astrolabe/ops.costs" .i64 tab0) (hc : 39 ≤ a0 ∧ a0 ≤ 39) :
    Calls Tryz.prog 3 #[.int .i64 a0, .int .i32 a1, .int .i32 a2] w fun e w' => e = .returned (.bool true) ∧ Below w.heap.size w w' :=
  lawT_of (runA_ok [(39, 39), (-2147483648, 2147483647), (-2147483648, 2147483647)]) (ρ := envR [a0, a1, a2, LZ tab0] [tabRo 0 .i64 tab0]) (envR_ok (cx := cxOf 2 [(39, 39), (-2147483648, 2147483647), (-2147483648, 2147483647)] [⟨[.int .i64], .v 3, .c 43, .c 43, some 0⟩]) rfl rfl (bnd_cons hc (bnd_cons (wf_bd w1) (bnd_cons (wf_bd w2) (bnd_nil _)))) ⟨⟨rfl, rfl, rfl, rfl, (fun h => by cases h), fun g h => by cases h; rfl⟩, trivial⟩) (f := 3) (args := [.int .i64 (.c 39), .int .i32 (.v 1), .int .i32 (.v 2)]) (t := tree) ran fineT
    (by rw [plain]; exact holds a0 a1 a2 hc.1 hc.2 (wf_bd w1).1 (wf_bd w1).2 (wf_bd w2).1 (wf_bd w2).2) (roOk_of ⟨tabRo_at t0 tabG0 tabW0, trivial⟩) (by obtain rfl : a0 = 39 := (by omega); rfl)

end c39

namespace c40
def tree : TT (List E) :=
(.br (.b .eq .i64 (.w .i64 (.f 13 (.v 3) (.c 39) (.c 0))) (.c 3))
  (.leaf [(.b .eq .i64 (.w .i64 (.b .padd .i64 (.w .i64 (.f 13 (.v 3) (.c 21) (.c 0))) (.c 3))) (.c 5))])
  (.leaf [(.c 0)]))

def P (a0 a1 a2 a3 : Int) : Prop :=
 (((bool01 ((IntKind.wrap .i64 (rdZ a3 39)) == 3)) ≠ 0 →
  ((bool01 ((IntKind.wrap .i64 ((IntKind.wrap .i64 (rdZ a3 21)) + 3)) == 5)) : Int) ≠ 0) ∧ ((bool01 ((IntKind.wrap .i64 (rdZ a3 39)) == 3)) = 0 →
  (0 : Int) ≠ 0))

theorem plain (a0 a1 a2 a3 : Int) (ro : List RO) : TT.hdP (cxOf 2 [(40, 40), (-2147483648, 2147483647), (-2147483648, 2147483647)] [⟨[.int .i64], .v 3, .c 43, .c 43, some 0⟩]) isOne tree (envR [a0, a1, a2, a3] ro) = P a0 a1 a2 a3 := by kernel_rfl

theorem holds (a0 a1 a2 : Int) (l0 : 40 ≤ a0) (u0 : a0 ≤ 40) (l1 : -2147483648 ≤ a1) (u1 : a1 ≤ 2147483647) (l2 : -2147483648 ≤ a2) (u2 : a2 ≤ 2147483647) : P a0 a1 a2 (LZ tab0) := by
  have h5 : (IntKind.wrap .i64 ((IntKind.wrap .i64 (rdZ (LZ tab0) 21)) + 3)) = 5 := by rw [rdZ_LZ]; decide
  have r1 : 40 < 1 ∨ 43 < 40 ∨ IntKind.wrap .i64 (rdZ (LZ tab0) (39)) = 3 := by
    first
      | exact .inl (by decide)
      | exact .inr (.inl (by decide))
      | exact .inr (.inr (by rw [rdZ_LZ]; decide))
  unfold P
  first
    | (rcases r1 with r1 | r1 | r1 <;> simp [h5, r1, bool01]; done)
    | (simp [h5, bool01]; done)
    | (simp [h5] at *; simp_all [bool01]; done)

theorem ran : TT.beq (projL pjB (runA [(40, 40), (-2147483648, 2147483647), (-2147483648, 2147483647)] 3 [.int .i64 (.c 40), .int .i32 (.v 1), .int .i32 (.v 2)] ⟨[], []⟩)) tree = true := by kernel_rfl
theorem fineT : (TT.fine (cxOf 2 [(40, 40), (-2147483648, 2147483647), (-2147483648, 2147483647)] [⟨[.int .i64], .v 3, .c 43, .c 43, some 0⟩]) 1000 [] tree && (cxOf 2 [(40, 40), (-2147483648, 2147483647), (-2147483648, 2147483647)] [⟨[.int .i64], .v 3, .c 43, .c 43, some 0⟩]).okB 1000 && SV.vbL 1000 [.int .i64 (.c 40), .int .i32 (.v 1), .int .i32 (.v 2)] && TT.tidy (cxOf 2 [(40, 40), (-2147483648, 2147483647), (-2147483648, 2147483647)] [⟨[.int .i64], .v 3, .c 43, .c 43, some 0⟩]) [] tree) = true := by kernel_rfl
theorem walk (a0 a1 a2 : Int) (w0 : (Lit.int .i64 a0).wf = true) (w1 : (Lit.int .i32 a1).wf = true) (w2 : (Lit.int .i32 a2).wf = true) (w : World) (t0 : Lib.TabIs Tryz.prog w "astrolabe/ops.costs" .i64 tab0) (hc : 40 ≤ a0 ∧ a0 ≤ 40) :
    Calls Tryz.prog 3 #[.int .i64 a0, .int .i32 a1, .int .i32 a2] w fun e w' => e = .returned (.bool true) ∧ Below w.heap.size w w' :=
  lawT_of (runA_ok [(40, 40), (-2147483648, 2147483647), (-2147483648, 2147483647)]) (ρ := envR [a0, a1, a2, LZ tab0] [tabRo 0 .i64 tab0]) (envR_ok (cx := cxOf 2 [(40, 40), (-2147483648, 2147483647), (-2147483648, 2147483647)] [⟨[.int .i64], .v 3, .c 43, .c 43, some 0⟩]) rfl rfl (bnd_cons hc (bnd_cons (wf_bd w1) (bnd_cons (wf_bd w2) (bnd_nil _)))) ⟨⟨rfl, rfl, rfl, rfl, (fun h => by cases h), fun g h => by cases h; rfl⟩, trivial⟩) (f := 3) (args := [.int .i64 (.c 40), .int .i32 (.v 1), .int .i32 (.v 2)]) (t := tree) ran fineT
    (by rw [plain]; exact holds a0 a1 a2 hc.1 hc.2 (wf_bd w1).1 (wf_bd w1).2 (wf_bd w2).1 (wf_bd w2).2) (roOk_of ⟨tabRo_at t0 tabG0 tabW0, trivial⟩) (by obtain rfl : a0 = 40 := (by omega); rfl)

end c40

namespace c41
def tree : TT (List E) :=
(.br (.b .eq .i64 (.w .i64 (.f 13 (.v 3) (.c 40) (.c 0))) (.c 3))
  (.leaf [(.b .eq .i64 (.w .i64 (.b .padd .i64 (.w .i64 (.f 13 (.v 3) (.c 21) (.c 0))) (.c 3))) (.c 5))])
  (.leaf [(.c 0)]))

def P (a0 a1 a2 a3 : Int) : Prop :=
 (((bool01 ((IntKind.wrap .i64 (rdZ a3 40)) == 3)) ≠ 0 →
  ((bool01 ((IntKind.wrap .i64 ((IntKind.wrap .i64 (rdZ a3 21)) + 3)) == 5)) : Int) ≠ 0) ∧ ((bool01 ((IntKind.wrap .i64 (rdZ a3 40)) == 3)) = 0 →
  (0 : Int) ≠ 0))

theorem plain (a0 a1 a2 a3 : Int) (ro : List RO) : TT.hdP (cxOf 2 [(41, 41), (-2147483648, 2147483647), (-2147483648, 2147483647)] [⟨[.int .i64], .v 3, .c 43, .c 43, some 0⟩]) isOne tree (envR [a0, a1, a2, a3] ro) = P a0 a1 a2 a3 := by kernel_rfl

theorem holds (a0 a1 a2 : Int) (l0 : 41 ≤ a0) (u0 : a0 ≤ 41) (l1 : -2147483648 ≤ a1) (u1 : a1 ≤ 2147483647) (l2 : -2147483648 ≤ a2) (u2 : a2 ≤ 2147483647) : P a0 a1 a2 (LZ tab0) := by
  have h5 : (IntKind.wrap .i64 ((IntKind.wrap .i64 (rdZ (LZ tab0) 21)) + 3)) = 5 := by rw [rdZ_LZ]; decide
  have r1 : 41 < 1 ∨ 43 < 41 ∨ IntKind.wrap .i64 (rdZ (LZ tab0) (40)) = 3 := by
    first
      | exact .inl (by decide)
      | exact .inr (.inl (by decide))
      | exact .inr (.inr (by rw [rdZ_LZ]; decide))
  unfold P
  first
    | (rcases r1 with r1 | r1 | r1 <;> simp [h5, r1, bool01]; done)
    | (simp [h5, bool01]; done)
    | (simp [h5] at *; simp_all [bool01]; done)

theorem ran : TT.beq (projL pjB (runA [(41, 41), (-2147483648, 2147483647), (-2147483648, 2147483647)] 3 [.int .i64 (.c 41), .int .i32 (.v 1), .int .i32 (.v 2)] ⟨[], []⟩)) tree = true := by kernel_rfl
theorem fineT : (TT.fine (cxOf 2 [(41, 41), (-2147483648, 2147483647), (-2147483648, 2147483647)] [⟨[.int .i64], .v 3, .c 43, .c 43, some 0⟩]) 1000 [] tree && (cxOf 2 [(41, 41), (-2147483648, 2147483647), (-2147483648, 2147483647)] [⟨[.int .i64], .v 3, .c 43, .c 43, some 0⟩]).okB 1000 && SV.vbL 1000 [.int .i64 (.c 41), .int .i32 (.v 1), .int .i32 (.v 2)] && TT.tidy (cxOf 2 [(41, 41), (-2147483648, 2147483647), (-2147483648, 2147483647)] [⟨[.int .i64], .v 3, .c 43, .c 43, some 0⟩]) [] tree) = true := by kernel_rfl
theorem walk (a0 a1 a2 : Int) (w0 : (Lit.int .i64 a0).wf = true) (w1 : (Lit.int .i32 a1).wf = true) (w2 : (Lit.int .i32 a2).wf = true) (w : World) (t0 : Lib.TabIs Tryz.prog w "astrolabe/ops.costs" .i64 tab0) (hc : 41 ≤ a0 ∧ a0 ≤ 41) :
    Calls Tryz.prog 3 #[.int .i64 a0, .int .i32 a1, .int .i32 a2] w fun e w' => e = .returned (.bool true) ∧ Below w.heap.size w w' :=
  lawT_of (runA_ok [(41, 41), (-2147483648, 2147483647), (-2147483648, 2147483647)]) (ρ := envR [a0, a1, a2, LZ tab0] [tabRo 0 .i64 tab0]) (envR_ok (cx := cxOf 2 [(41, 41), (-2147483648, 2147483647), (-2147483648, 2147483647)] [⟨[.int .i64], .v 3, .c 43, .c 43, some 0⟩]) rfl rfl (bnd_cons hc (bnd_cons (wf_bd w1) (bnd_cons (wf_bd w2) (bnd_nil _)))) ⟨⟨rfl, rfl, rfl, rfl, (fun h => by cases h), fun g h => by cases h; rfl⟩, trivial⟩) (f := 3) (args := [.int .i64 (.c 41), .int .i32 (.v 1), .int .i32 (.v 2)]) (t := tree) ran fineT
    (by rw [plain]; exact holds a0 a1 a2 hc.1 hc.2 (wf_bd w1).1 (wf_bd w1).2 (wf_bd w2).1 (wf_bd w2).2) (roOk_of ⟨tabRo_at t0 tabG0 tabW0, trivial⟩) (by obtain rfl : a0 = 41 := (by omega); rfl)

end c41

namespace c42
def tree : TT (List E) :=
(.br (.b .eq .i64 (.w .i64 (.f 13 (.v 3) (.c 41) (.c 0))) (.c 1))
  (.leaf [(.b .eq .i64 (.w .i64 (.b .padd .i64 (.w .i64 (.f 13 (.v 3) (.c 21) (.c 0))) (.c 3))) (.c 5))])
  (.leaf [(.c 0)]))

def P (a0 a1 a2 a3 : Int) : Prop :=
 (((bool01 ((IntKind.wrap .i64 (rdZ a3 41)) == 1)) ≠ 0 →
  ((bool01 ((IntKind.wrap .i64 ((IntKind.wrap .i64 (rdZ a3 21)) + 3)) == 5)) : Int) ≠ 0) ∧ ((bool01 ((IntKind.wrap .i64 (rdZ a3 41)) == 1)) = 0 →
  (0 : Int) ≠ 0))

theorem plain (a0 a1 a2 a3 : Int) (ro : List RO) : TT.hdP (cxOf 2 [(42, 42), (-2147483648, 2147483647), (-2147483648, 2147483647)] [⟨[.int .i64], .v 3, .c 43, .c 43, some 0⟩]) isOne tree (envR [a0, a1, a2, a3] ro) = P a0 a1 a2 a3 := by kernel_rfl

theorem holds (a0 a1 a2 : Int) (l0 : 42 ≤ a0) (u0 : a0 ≤ 42) (l1 : -2147483648 ≤ a1) (u1 : a1 ≤ 2147483647) (l2 : -2147483648 ≤ a2) (u2 : a2 ≤ 2147483647) : P a0 a1 a2 (LZ tab0) := by
  have h5 : (IntKind.wrap .i64 ((IntKind.wrap .i64 (rdZ (LZ tab0) 21)) + 3)) = 5 := by rw [rdZ_LZ]; decide
  have r1 : 42 < 1 ∨ 43 < 42 ∨ IntKind.wrap .i64 (rdZ (LZ tab0) (41)) = 1 := by
    first
      | exact .inl (by decide)
      | exact .inr (.inl (by decide))
      | exact .inr (.inr (by rw [rdZ_LZ]; decide))
  unfold P
  first
    | (rcases r1 with r1 | r1 | r1 <;> simp [h5, r1, bool01]; done)
    | (simp [h5, bool01]; done)
    | (simp [h5] at *; simp_all [bool01]; done)

theorem ran : TT.beq (projL pjB (runA [(42, 42), (-2147483648, 2147483647), (-2147483648, 2147483647)] 3 [.int .i64 (.c 42), .int .i32 (.v 1), .int .i32 (.v 2)] ⟨[], []⟩)) tree = true := by kernel_rfl
theorem fineT : (TT.fine (cxOf 2 [(42, 42), (-2147483648, 2147483647), (-2147483648, 2147483647)] [⟨[.int .i64], .v 3, .c 43, .c 43, some 0⟩]) 1000 [] tree && (cxOf 2 [(42, 42), (-2147483648, 2147483647), (-2147483648, 2147483647)] [⟨[.int .i64], .v 3, .c 43, .c 43, some 0⟩]).okB 1000 && SV.vbL 1000 [.int .i64 (.c 42), .int .i32 (.v 1), .int .i32 (.v 2)] && TT.tidy (cxOf 2 [(42, 42), (-2147483648, 2147483647), (-2147483648, 2147483647)] [⟨[.int .i64], .v 3, .c 43, .c 43, some 0⟩]) [] tree) = true := by kernel_rfl
theorem walk (a0 a1 a2 : Int) (w0 : (Lit.int .i64 a0).wf = true) (w1 : (Lit.int .i32 a1).wf = true) (w2 : (Lit.int .i32 a2).wf = true) (w : World) (t0 : Lib.TabIs Tryz.prog w "astrolabe/ops.costs" .i64 tab0) (hc : 42 ≤ a0 ∧ a0 ≤ 42) :
    Calls Tryz.prog 3 #[.int .i64 a0, .int .i32 a1, .int .i32 a2] w fun e w' => e = .returned (.bool true) ∧ Below w.heap.size w w' :=
  lawT_of (runA_ok [(42, 42), (-2147483648, 2147483647), (-2147483648, 2147483647)]) (ρ := envR [a0, a1, a2, LZ tab0] [tabRo 0 .i64 tab0]) (envR_ok (cx := cxOf 2 [(42, 42), (-2147483648, 2147483647), (-2147483648, 2147483647)] [⟨[.int .i64], .v 3, .c 43, .c 43, some 0⟩]) rfl rfl (bnd_cons hc (bnd_cons (wf_bd w1) (bnd_cons (wf_bd w2) (bnd_nil _)))) ⟨⟨rfl, rfl, rfl, rfl, (fun h => by cases h), fun g h => by cases h; rfl⟩, trivial⟩) (f := 3) (args := [.int .i64 (.c 42), .int .i32 (.v 1), .int .i32 (.v 2)]) (t := tree) ran fineT
    (by rw [plain]; exact holds a0 a1 a2 hc.1 hc.2 (wf_bd w1).1 (wf_bd w1).2 (wf_bd w2).1 (wf_bd w2).2) (roOk_of ⟨tabRo_at t0 tabG0 tabW0, trivial⟩) (by obtain rfl : a0 = 42 := (by omega); rfl)

end c42

namespace c43
def tree : TT (List E) :=
(.br (.b .eq .i64 (.w .i64 (.f 13 (.v 3) (.c 42) (.c 0))) (.c 1))
  (.leaf [(.b .eq .i64 (.w .i64 (.b .padd .i64 (.w .i64 (.f 13 (.v 3) (.c 21) (.c 0))) (.c 3))) (.c 5))])
  (.leaf [(.c 0)]))

def P (a0 a1 a2 a3 : Int) : Prop :=
 (((bool01 ((IntKind.wrap .i64 (rdZ a3 42)) == 1)) ≠ 0 →
  ((bool01 ((IntKind.wrap .i64 ((IntKind.wrap .i64 (rdZ a3 21)) + 3)) == 5)) : Int) ≠ 0) ∧ ((bool01 ((IntKind.wrap .i64 (rdZ a3 42)) == 1)) = 0 →
  (0 : Int) ≠ 0))

theorem plain (a0 a1 a2 a3 : Int) (ro : List RO) : TT.hdP (cxOf 2 [(43, 43), (-2147483648, 2147483647), (-2147483648, 2147483647)] [⟨[.int .i64], .v 3, .c 43, .c 43, some 0⟩]) isOne tree (envR [a0, a1, a2, a3] ro) = P a0 a1 a2 a3 := by kernel_rfl

theorem holds (a0 a1 a2 : Int) (l0 : 43 ≤ a0) (u0 : a0 ≤ 43) (l1 : -2147483648 ≤ a1) (u1 : a1 ≤ 2147483647) (l2 : -2147483648 ≤ a2) (u2 : a2 ≤ 2147483647) : P a0 a1 a2 (LZ tab0) := by
  have h5 : (IntKind.wrap .i64 ((IntKind.wrap .i64 (rdZ (LZ tab0) 21)) + 3)) = 5 := by rw [rdZ_LZ]; decide
  have r1 : 43 < 1 ∨ 43 < 43 ∨ IntKind.wrap .i64 (rdZ (LZ tab0) (42)) = 1 := by
    first
      | exact .inl (by decide)
      | exact .inr (.inl (by decide))
      | exact .inr (.inr (by rw [rdZ_LZ]; decide))
  unfold P
  first
    | (rcases r1 with r1 | r1 | r1 <;> simp [h5, r1, bool01]; done)
    | (simp [h5, bool01]; done)
    | (simp [h5] at *; simp_all [bool01]; done)

theorem ran : TT.beq (projL pjB (runA [(43, 43), (-2147483648, 2147483647), (-2147483648, 2147483647)] 3 [.int .i64 (.c 43), .int .i32 (.v 1), .int .i32 (.v 2)] ⟨[], []⟩)) tree = true := by kernel_rfl
theorem fineT : (TT.fine (cxOf 2 [(43, 43), (-2147483648, 2147483647), (-2147483648, 2147483647)] [⟨[.int .i64], .v 3, .c 43, .c 43, some 0⟩]) 1000 [] tree && (cxOf 2 [(43, 43), (-2147483648, 2147483647), (-2147483648, 2147483647)] [⟨[.int .i64], .v 3, .c 43, .c 43, some 0⟩]).okB 1000 && SV.vbL 1000 [.int .i64 (.c 43), .int .i32 (.v 1), .int .i32 (.v 2)] && TT.tidy (cxOf 2 [(43, 43), (-2147483648, 2147483647), (-2147483648, 2147483647)] [⟨[.int .i64], .v 3, .c 43, .c 43, some 0⟩]) [] tree) = true := by kernel_rfl
theorem walk (a0 a1 a2 : Int) (w0 : (Lit.int .i64 a0).wf = true) (w1 : (Lit.int .i32 a1).wf = true) (w2 : (Lit.int .i32 a2).wf = true) (w : World) (t0 : Lib.TabIs Tryz.prog w "astrolabe/ops.costs" .i64 tab0) (hc : 43 ≤ a0 ∧ a0 ≤ 43) :
    Calls Tryz.prog 3 #[.int .i64 a0, .int .i32 a1, .int .i32 a2] w fun e w' => e = .returned (.bool true) ∧ Below w.heap.size w w' :=
  lawT_of (runA_ok [(43, 43), (-2147483648, 2147483647), (-2147483648, 2147483647)]) (ρ := envR [a0, a1, a2, LZ tab0] [tabRo 0 .i64 tab0]) (envR_ok (cx := cxOf 2 [(43, 43), (-2147483648, 2147483647), (-2147483648, 2147483647)] [⟨[.int .i64], .v 3, .c 43, .c 43, some 0⟩]) rfl rfl (bnd_cons hc (bnd_cons (wf_bd w1) (bnd_cons (wf_bd w2) (bnd_nil _)))) ⟨⟨rfl, rfl, rfl, rfl, (fun h => by cases h), fun g h => by cases h; rfl⟩, trivial⟩) (f := 3) (args := [.int .i64 (.c 43), .int .i32 (.v 1), .int .i32 (.v 2)]) (t := tree) ran fineT
    (by rw [plain]; exact holds a0 a1 a2 hc.1 hc.2 (wf_bd w1).1 (wf_bd w1).2 (wf_bd w2).1 (wf_bd w2).2) (roOk_of ⟨tabRo_at t0 tabG0 tabW0, trivial⟩) (by obtain rfl : a0 = 43 := (by omega); rfl)

end c43

namespace c44
def tree : TT (List E) :=
(.leaf [(.b .eq .i64 (.w .i64 (.b .padd .i64 (.w .i64 (.f 13 (.v 3) (.c 21) (.c 0))) (.c 3))) (.c 5))])

def P (a0 a1 a2 a3 : Int) : Prop :=
 ((bool01 ((IntKind.wrap .i64 ((IntKind.wrap .i64 (rdZ a3 21)) + 3)) == 5)) : Int) ≠ 0

theorem plain (a0 a1 a2 a3 : Int) (ro : List RO) : TT.hdP (cxOf 2 [(44, 9223372036854775807), (-2147483648, 2147483647), (-2147483648, 2147483647)] [⟨[.int .i64], .v 3, .c 43, .c 43, some 0⟩]) isOne tree (envR [a0, a1, a2, a3] ro) = P a0 a1 a2 a3 := by kernel_rfl

theorem holds (a0 a1 a2 : Int) (l0 : 44 ≤ a0) (u0 : a0 ≤ 9223372036854775807) (l1 : -2147483648 ≤ a1) (u1 : a1 ≤ 2147483647) (l2 : -2147483648 ≤ a2) (u2 : a2 ≤ 2147483647) : P a0 a1 a2 (LZ tab0) := by
  have h5 : (IntKind.wrap .i64 ((IntKind.wrap .i64 (rdZ (LZ tab0) 21)) + 3)) = 5 := by rw [rdZ_LZ]; decide
  have r1 : 44 < 1 ∨ 43 < 44 ∨ IntKind.wrap .i64 (rdZ (LZ tab0) (43)) = 0 := by
    first
      | exact .inl (by decide)
      | exact .inr (.inl (by decide))
      | exact .inr (.inr (by rw [rdZ_LZ]; decide))
  unfold P
  first
    | (rcases r1 with r1 | r1 | r1 <;> simp [h5, r1, bool01]; done)
    | (simp [h5, bool01]; done)
    | (simp [h5] at *; simp_all [bool01]; done)

theorem ran : TT.beq (projL pjB (runA [(44, 9223372036854775807), (-2147483648, 2147483647), (-2147483648, 2147483647)] 3 [.int .i64 (.v 0), .int .i32 (.v 1), .int .i32 (.v 2)] ⟨[], []⟩)) tree = true := by kernel_rfl
theorem fineT : (TT.fine (cxOf 2 [(44, 9223372036854775807), (-2147483648, 2147483647), (-2147483648, 2147483647)] [⟨[.int .i64], .v 3, .c 43, .c 43, some 0⟩]) 1000 [] tree && (cxOf 2 [(44, 9223372036854775807), (-2147483648, 2147483647), (-2147483648, 2147483647)] [⟨[.int .i64], .v 3, .c 43, .c 43, some 0⟩]).okB 1000 && SV.vbL 1000 [.int .i64 (.v 0), .int .i32 (.v 1), .int .i32 (.v 2)] && TT.tidy (cxOf 2 [(44, 9223372036854775807), (-2147483648, 2147483647), (-2147483648, 2147483647)] [⟨[.int .i64], .v 3, .c 43, .c 43, some 0⟩]) [] tree) = true := by kernel_rfl
theorem walk (a0 a1 a2 : Int) (w0 : (Lit.int .i64 a0).wf = true) (w1 : (Lit.int .i32 a1).wf = true) (w2 : (Lit.int .i32 a2).wf = true) (w : World) (t0 : Lib.TabIs Tryz.prog w "astrolabe/ops.costs" .i64 tab0) (hc : 44 ≤ a0 ∧ a0 ≤ 9223372036854775807) :
    Calls Tryz.prog 3 #[.int .i64 a0, .int .i32 a1, .int .i32 a2] w fun e w' => e = .returned (.bool true) ∧ Below w.heap.size w w' :=
  lawT_of (runA_ok [(44, 9223372036854775807), (-2147483648, 2147483647), (-2147483648, 2147483647)]) (ρ := envR [a0, a1, a2, LZ tab0] [tabRo 0 .i64 tab0]) (envR_ok (cx := cxOf 2 [(44, 9223372036854775807), (-2147483648, 2147483647), (-2147483648, 2147483647)] [⟨[.int .i64], .v 3, .c 43, .c 43, some 0⟩]) rfl rfl (bnd_cons hc (bnd_cons (wf_bd w1) (bnd_cons (wf_bd w2) (bnd_nil _)))) ⟨⟨rfl, rfl, rfl, rfl, (fun h => by cases h), fun g h => by cases h; rfl⟩, trivial⟩) (f := 3) (args := [.int .i64 (.v 0), .int .i32 (.v 1), .int .i32 (.v 2)]) (t := tree) ran fineT
    (by rw [plain]; exact holds a0 a1 a2 hc.1 hc.2 (wf_bd w1).1 (wf_bd w1).2 (wf_bd w2).1 (wf_bd w2).2) (roOk_of ⟨tabRo_at t0 tabG0 tabW0, trivial⟩) rfl

end c44
end Go.Proofs.YtjooaieolphomaaGreatDoor.aluTells
