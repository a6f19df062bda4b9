/-
  The law AluDivides answers true at every input: the law's function is run by the engine (a program's symbolic run, proved sound), and the tree of its answers, as a plain statement, is shown to hold. No condition but the table that the row lays, tied to the program's text by the card.
-/
import Derived.Test.YtjooaieolphomaaDoorRows
import Derived.Test.YtjooaieolphomaaDoorCards
import Derived.Test.YtjooaieolphomaaDoorTie
import Derived.Test.YtjooaieolphomaaDoorFen
import Derived.Test.YtjooaieolphomaaDoorFngTL
import Derived.Test.YtjooaieolphomaaDoorPmA
import Derived.WalkKit
import Derived.ProofKit
import Derived.OpenShut
import Derived.LaidMore
import Derived.Stop.Joined
import Derived.SevenTiedAt
namespace Go.Proofs.YtjooaieolphomaaDoor.aluDivides
open Go.ChangeShapes Go.WideShapes Go.ChangeAt Go.RowKit
open Go.Eng
set_option linter.unusedVariables false
set_option linter.unusedSimpArgs false

theorem own : ownKnob Tryd.prog.godebug = none := by kernel_rfl

set_option maxRecDepth 100000
def tab0 : List Int := [1, 1, 1, 1, 1, 1, 1, 1, 1, 1, 1, 1, 1, 1, 1, 1, 1, 3, 3, 3, 3, 2, 2, 1, 1, 1, 1, 1, 1, 1, 1, 1, 1, 2, 2, 1, 1, 1, 3, 3, 3, 1, 1]
theorem tabG0 : Tryd.prog.globalNamed "astrolabe/ops.costs" = some 0 := by kernel_rfl
theorem tabW0 : ∀ z ∈ tab0, IntKind.wrap .i64 z = z := fun z hz => by
  have h := List.all_eq_true.1 (show tab0.all (fun z => decide (IntKind.wrap .i64 z = z)) = true by kernel_rfl) z hz
  simpa using h

def tree : TT (List E) :=
(.br (.b .eq .i64 (.v 1) (.c 0))
  (.leaf [(.b .eq .i64 (.w .i64 (.b .padd .i64 (.w .i64 (.f 13 (.v 2) (.c 21) (.c 0))) (.c 3))) (.c 5))])
  (.br (.b .lt .i64 (.w .i32 (.b .psub .i64 (.v 0) (.w .i64 (.b .pmul .i64 (.b .quo .i64 (.v 0) (.v 1)) (.v 1))))) (.c 0))
  (.br (.b .lt .i64 (.v 1) (.c 0))
  (.br (.b .eq .i64 (.w .i32 (.b .padd .i64 (.w .i32 (.b .pmul .i64 (.w .i32 (.b .quo .i64 (.v 0) (.v 1))) (.v 1))) (.w .i32 (.b .psub .i64 (.v 0) (.w .i64 (.b .pmul .i64 (.b .quo .i64 (.v 0) (.v 1)) (.v 1))))))) (.v 0))
  (.br (.b .lt .i64 (.b .psub .i64 (.c 0) (.w .i32 (.b .psub .i64 (.v 0) (.w .i64 (.b .pmul .i64 (.b .quo .i64 (.v 0) (.v 1)) (.v 1)))))) (.b .psub .i64 (.c 0) (.v 1)))
  (.br (.b .eq .i64 (.w .i32 (.b .psub .i64 (.v 0) (.w .i64 (.b .pmul .i64 (.b .quo .i64 (.v 0) (.v 1)) (.v 1))))) (.c 0))
  (.leaf [(.b .eq .i64 (.w .i64 (.b .padd .i64 (.w .i64 (.f 13 (.v 2) (.c 21) (.c 0))) (.c 3))) (.c 5))])
  (.br (.b .eq .i64 (.nt (.b .lt .i64 (.w .i32 (.b .psub .i64 (.v 0) (.w .i64 (.b .pmul .i64 (.b .quo .i64 (.v 0) (.v 1)) (.v 1))))) (.c 0))) (.nt (.b .lt .i64 (.v 0) (.c 0))))
  (.leaf [(.b .eq .i64 (.w .i64 (.b .padd .i64 (.w .i64 (.f 13 (.v 2) (.c 21) (.c 0))) (.c 3))) (.c 5))])
  (.leaf [(.c 0)])))
  (.leaf [(.c 0)]))
  (.leaf [(.c 0)]))
  (.br (.b .eq .i64 (.w .i32 (.b .padd .i64 (.w .i32 (.b .pmul .i64 (.w .i32 (.b .quo .i64 (.v 0) (.v 1))) (.v 1))) (.w .i32 (.b .psub .i64 (.v 0) (.w .i64 (.b .pmul .i64 (.b .quo .i64 (.v 0) (.v 1)) (.v 1))))))) (.v 0))
  (.br (.b .lt .i64 (.b .psub .i64 (.c 0) (.w .i32 (.b .psub .i64 (.v 0) (.w .i64 (.b .pmul .i64 (.b .quo .i64 (.v 0) (.v 1)) (.v 1)))))) (.v 1))
  (.br (.b .eq .i64 (.w .i32 (.b .psub .i64 (.v 0) (.w .i64 (.b .pmul .i64 (.b .quo .i64 (.v 0) (.v 1)) (.v 1))))) (.c 0))
  (.leaf [(.b .eq .i64 (.w .i64 (.b .padd .i64 (.w .i64 (.f 13 (.v 2) (.c 21) (.c 0))) (.c 3))) (.c 5))])
  (.br (.b .eq .i64 (.nt (.b .lt .i64 (.w .i32 (.b .psub .i64 (.v 0) (.w .i64 (.b .pmul .i64 (.b .quo .i64 (.v 0) (.v 1)) (.v 1))))) (.c 0))) (.nt (.b .lt .i64 (.v 0) (.c 0))))
  (.leaf [(.b .eq .i64 (.w .i64 (.b .padd .i64 (.w .i64 (.f 13 (.v 2) (.c 21) (.c 0))) (.c 3))) (.c 5))])
  (.leaf [(.c 0)])))
  (.leaf [(.c 0)]))
  (.leaf [(.c 0)])))
  (.br (.b .lt .i64 (.v 1) (.c 0))
  (.br (.b .eq .i64 (.w .i32 (.b .padd .i64 (.w .i32 (.b .pmul .i64 (.w .i32 (.b .quo .i64 (.v 0) (.v 1))) (.v 1))) (.w .i32 (.b .psub .i64 (.v 0) (.w .i64 (.b .pmul .i64 (.b .quo .i64 (.v 0) (.v 1)) (.v 1))))))) (.v 0))
  (.br (.b .lt .i64 (.w .i32 (.b .psub .i64 (.v 0) (.w .i64 (.b .pmul .i64 (.b .quo .i64 (.v 0) (.v 1)) (.v 1))))) (.b .psub .i64 (.c 0) (.v 1)))
  (.br (.b .eq .i64 (.w .i32 (.b .psub .i64 (.v 0) (.w .i64 (.b .pmul .i64 (.b .quo .i64 (.v 0) (.v 1)) (.v 1))))) (.c 0))
  (.leaf [(.b .eq .i64 (.w .i64 (.b .padd .i64 (.w .i64 (.f 13 (.v 2) (.c 21) (.c 0))) (.c 3))) (.c 5))])
  (.br (.b .eq .i64 (.nt (.b .lt .i64 (.w .i32 (.b .psub .i64 (.v 0) (.w .i64 (.b .pmul .i64 (.b .quo .i64 (.v 0) (.v 1)) (.v 1))))) (.c 0))) (.nt (.b .lt .i64 (.v 0) (.c 0))))
  (.leaf [(.b .eq .i64 (.w .i64 (.b .padd .i64 (.w .i64 (.f 13 (.v 2) (.c 21) (.c 0))) (.c 3))) (.c 5))])
  (.leaf [(.c 0)])))
  (.leaf [(.c 0)]))
  (.leaf [(.c 0)]))
  (.br (.b .eq .i64 (.w .i32 (.b .padd .i64 (.w .i32 (.b .pmul .i64 (.w .i32 (.b .quo .i64 (.v 0) (.v 1))) (.v 1))) (.w .i32 (.b .psub .i64 (.v 0) (.w .i64 (.b .pmul .i64 (.b .quo .i64 (.v 0) (.v 1)) (.v 1))))))) (.v 0))
  (.br (.b .lt .i64 (.w .i32 (.b .psub .i64 (.v 0) (.w .i64 (.b .pmul .i64 (.b .quo .i64 (.v 0) (.v 1)) (.v 1))))) (.v 1))
  (.br (.b .eq .i64 (.w .i32 (.b .psub .i64 (.v 0) (.w .i64 (.b .pmul .i64 (.b .quo .i64 (.v 0) (.v 1)) (.v 1))))) (.c 0))
  (.leaf [(.b .eq .i64 (.w .i64 (.b .padd .i64 (.w .i64 (.f 13 (.v 2) (.c 21) (.c 0))) (.c 3))) (.c 5))])
  (.br (.b .eq .i64 (.nt (.b .lt .i64 (.w .i32 (.b .psub .i64 (.v 0) (.w .i64 (.b .pmul .i64 (.b .quo .i64 (.v 0) (.v 1)) (.v 1))))) (.c 0))) (.nt (.b .lt .i64 (.v 0) (.c 0))))
  (.leaf [(.b .eq .i64 (.w .i64 (.b .padd .i64 (.w .i64 (.f 13 (.v 2) (.c 21) (.c 0))) (.c 3))) (.c 5))])
  (.leaf [(.c 0)])))
  (.leaf [(.c 0)]))
  (.leaf [(.c 0)])))))

def P (a0 a1 a2 : Int) : Prop :=
 (((bool01 (a1 == 0)) ≠ 0 →
  ((bool01 ((IntKind.wrap .i64 ((IntKind.wrap .i64 (rdZ a2 21)) + 3)) == 5)) : Int) ≠ 0) ∧ ((bool01 (a1 == 0)) = 0 →
  (((bool01 (decide ((IntKind.wrap .i32 (a0 - (IntKind.wrap .i64 ((BO.ev .quo .i64 a0 a1) * a1)))) < 0))) ≠ 0 →
   (((bool01 (decide (a1 < 0))) ≠ 0 →
    (((bool01 ((IntKind.wrap .i32 ((IntKind.wrap .i32 ((IntKind.wrap .i32 (BO.ev .quo .i64 a0 a1)) * a1)) + (IntKind.wrap .i32 (a0 - (IntKind.wrap .i64 ((BO.ev .quo .i64 a0 a1) * a1)))))) == a0)) ≠ 0 →
     (((bool01 (decide ((0 - (IntKind.wrap .i32 (a0 - (IntKind.wrap .i64 ((BO.ev .quo .i64 a0 a1) * a1))))) < (0 - a1)))) ≠ 0 →
      (((bool01 ((IntKind.wrap .i32 (a0 - (IntKind.wrap .i64 ((BO.ev .quo .i64 a0 a1) * a1)))) == 0)) ≠ 0 →
       ((bool01 ((IntKind.wrap .i64 ((IntKind.wrap .i64 (rdZ a2 21)) + 3)) == 5)) : Int) ≠ 0) ∧ ((bool01 ((IntKind.wrap .i32 (a0 - (IntKind.wrap .i64 ((BO.ev .quo .i64 a0 a1) * a1)))) == 0)) = 0 →
       (((bool01 ((bool01 ((bool01 (decide ((IntKind.wrap .i32 (a0 - (IntKind.wrap .i64 ((BO.ev .quo .i64 a0 a1) * a1)))) < 0))) == 0)) == (bool01 ((bool01 (decide (a0 < 0))) == 0)))) ≠ 0 →
        ((bool01 ((IntKind.wrap .i64 ((IntKind.wrap .i64 (rdZ a2 21)) + 3)) == 5)) : Int) ≠ 0) ∧ ((bool01 ((bool01 ((bool01 (decide ((IntKind.wrap .i32 (a0 - (IntKind.wrap .i64 ((BO.ev .quo .i64 a0 a1) * a1)))) < 0))) == 0)) == (bool01 ((bool01 (decide (a0 < 0))) == 0)))) = 0 →
        (0 : Int) ≠ 0))))) ∧ ((bool01 (decide ((0 - (IntKind.wrap .i32 (a0 - (IntKind.wrap .i64 ((BO.ev .quo .i64 a0 a1) * a1))))) < (0 - a1)))) = 0 →
      (0 : Int) ≠ 0))) ∧ ((bool01 ((IntKind.wrap .i32 ((IntKind.wrap .i32 ((IntKind.wrap .i32 (BO.ev .quo .i64 a0 a1)) * a1)) + (IntKind.wrap .i32 (a0 - (IntKind.wrap .i64 ((BO.ev .quo .i64 a0 a1) * a1)))))) == a0)) = 0 →
     (0 : Int) ≠ 0))) ∧ ((bool01 (decide (a1 < 0))) = 0 →
    (((bool01 ((IntKind.wrap .i32 ((IntKind.wrap .i32 ((IntKind.wrap .i32 (BO.ev .quo .i64 a0 a1)) * a1)) + (IntKind.wrap .i32 (a0 - (IntKind.wrap .i64 ((BO.ev .quo .i64 a0 a1) * a1)))))) == a0)) ≠ 0 →
     (((bool01 (decide ((0 - (IntKind.wrap .i32 (a0 - (IntKind.wrap .i64 ((BO.ev .quo .i64 a0 a1) * a1))))) < a1))) ≠ 0 →
      (((bool01 ((IntKind.wrap .i32 (a0 - (IntKind.wrap .i64 ((BO.ev .quo .i64 a0 a1) * a1)))) == 0)) ≠ 0 →
       ((bool01 ((IntKind.wrap .i64 ((IntKind.wrap .i64 (rdZ a2 21)) + 3)) == 5)) : Int) ≠ 0) ∧ ((bool01 ((IntKind.wrap .i32 (a0 - (IntKind.wrap .i64 ((BO.ev .quo .i64 a0 a1) * a1)))) == 0)) = 0 →
       (((bool01 ((bool01 ((bool01 (decide ((IntKind.wrap .i32 (a0 - (IntKind.wrap .i64 ((BO.ev .quo .i64 a0 a1) * a1)))) < 0))) == 0)) == (bool01 ((bool01 (decide (a0 < 0))) == 0)))) ≠ 0 →
        ((bool01 ((IntKind.wrap .i64 ((IntKind.wrap .i64 (rdZ a2 21)) + 3)) == 5)) : Int) ≠ 0) ∧ ((bool01 ((bool01 ((bool01 (decide ((IntKind.wrap .i32 (a0 - (IntKind.wrap .i64 ((BO.ev .quo .i64 a0 a1) * a1)))) < 0))) == 0)) == (bool01 ((bool01 (decide (a0 < 0))) == 0)))) = 0 →
        (0 : Int) ≠ 0))))) ∧ ((bool01 (decide ((0 - (IntKind.wrap .i32 (a0 - (IntKind.wrap .i64 ((BO.ev .quo .i64 a0 a1) * a1))))) < a1))) = 0 →
      (0 : Int) ≠ 0))) ∧ ((bool01 ((IntKind.wrap .i32 ((IntKind.wrap .i32 ((IntKind.wrap .i32 (BO.ev .quo .i64 a0 a1)) * a1)) + (IntKind.wrap .i32 (a0 - (IntKind.wrap .i64 ((BO.ev .quo .i64 a0 a1) * a1)))))) == a0)) = 0 →
     (0 : Int) ≠ 0))))) ∧ ((bool01 (decide ((IntKind.wrap .i32 (a0 - (IntKind.wrap .i64 ((BO.ev .quo .i64 a0 a1) * a1)))) < 0))) = 0 →
   (((bool01 (decide (a1 < 0))) ≠ 0 →
    (((bool01 ((IntKind.wrap .i32 ((IntKind.wrap .i32 ((IntKind.wrap .i32 (BO.ev .quo .i64 a0 a1)) * a1)) + (IntKind.wrap .i32 (a0 - (IntKind.wrap .i64 ((BO.ev .quo .i64 a0 a1) * a1)))))) == a0)) ≠ 0 →
     (((bool01 (decide ((IntKind.wrap .i32 (a0 - (IntKind.wrap .i64 ((BO.ev .quo .i64 a0 a1) * a1)))) < (0 - a1)))) ≠ 0 →
      (((bool01 ((IntKind.wrap .i32 (a0 - (IntKind.wrap .i64 ((BO.ev .quo .i64 a0 a1) * a1)))) == 0)) ≠ 0 →
       ((bool01 ((IntKind.wrap .i64 ((IntKind.wrap .i64 (rdZ a2 21)) + 3)) == 5)) : Int) ≠ 0) ∧ ((bool01 ((IntKind.wrap .i32 (a0 - (IntKind.wrap .i64 ((BO.ev .quo .i64 a0 a1) * a1)))) == 0)) = 0 →
       (((bool01 ((bool01 ((bool01 (decide ((IntKind.wrap .i32 (a0 - (IntKind.wrap .i64 ((BO.ev .quo .i64 a0 a1) * a1)))) < 0))) == 0)) == (bool01 ((bool01 (decide (a0 < 0))) == 0)))) ≠ 0 →
        ((bool01 ((IntKind.wrap .i64 ((IntKind.wrap .i64 (rdZ a2 21)) + 3)) == 5)) : Int) ≠ 0) ∧ ((bool01 ((bool01 ((bool01 (decide ((IntKind.wrap .i32 (a0 - (IntKind.wrap .i64 ((BO.ev .quo .i64 a0 a1) * a1)))) < 0))) == 0)) == (bool01 ((bool01 (decide (a0 < 0))) == 0)))) = 0 →
        (0 : Int) ≠ 0))))) ∧ ((bool01 (decide ((IntKind.wrap .i32 (a0 - (IntKind.wrap .i64 ((BO.ev .quo .i64 a0 a1) * a1)))) < (0 - a1)))) = 0 →
      (0 : Int) ≠ 0))) ∧ ((bool01 ((IntKind.wrap .i32 ((IntKind.wrap .i32 ((IntKind.wrap .i32 (BO.ev .quo .i64 a0 a1)) * a1)) + (IntKind.wrap .i32 (a0 - (IntKind.wrap .i64 ((BO.ev .quo .i64 a0 a1) * a1)))))) == a0)) = 0 →
     (0 : Int) ≠ 0))) ∧ ((bool01 (decide (a1 < 0))) = 0 →
    (((bool01 ((IntKind.wrap .i32 ((IntKind.wrap .i32 ((IntKind.wrap .i32 (BO.ev .quo .i64 a0 a1)) * a1)) + (IntKind.wrap .i32 (a0 - (IntKind.wrap .i64 ((BO.ev .quo .i64 a0 a1) * a1)))))) == a0)) ≠ 0 →
     (((bool01 (decide ((IntKind.wrap .i32 (a0 - (IntKind.wrap .i64 ((BO.ev .quo .i64 a0 a1) * a1)))) < a1))) ≠ 0 →
      (((bool01 ((IntKind.wrap .i32 (a0 - (IntKind.wrap .i64 ((BO.ev .quo .i64 a0 a1) * a1)))) == 0)) ≠ 0 →
       ((bool01 ((IntKind.wrap .i64 ((IntKind.wrap .i64 (rdZ a2 21)) + 3)) == 5)) : Int) ≠ 0) ∧ ((bool01 ((IntKind.wrap .i32 (a0 - (IntKind.wrap .i64 ((BO.ev .quo .i64 a0 a1) * a1)))) == 0)) = 0 →
       (((bool01 ((bool01 ((bool01 (decide ((IntKind.wrap .i32 (a0 - (IntKind.wrap .i64 ((BO.ev .quo .i64 a0 a1) * a1)))) < 0))) == 0)) == (bool01 ((bool01 (decide (a0 < 0))) == 0)))) ≠ 0 →
        ((bool01 ((IntKind.wrap .i64 ((IntKind.wrap .i64 (rdZ a2 21)) + 3)) == 5)) : Int) ≠ 0) ∧ ((bool01 ((bool01 ((bool01 (decide ((IntKind.wrap .i32 (a0 - (IntKind.wrap .i64 ((BO.ev .quo .i64 a0 a1) * a1)))) < 0))) == 0)) == (bool01 ((bool01 (decide (a0 < 0))) == 0)))) = 0 →
        (0 : Int) ≠ 0))))) ∧ ((bool01 (decide ((IntKind.wrap .i32 (a0 - (IntKind.wrap .i64 ((BO.ev .quo .i64 a0 a1) * a1)))) < a1))) = 0 →
      (0 : Int) ≠ 0))) ∧ ((bool01 ((IntKind.wrap .i32 ((IntKind.wrap .i32 ((IntKind.wrap .i32 (BO.ev .quo .i64 a0 a1)) * a1)) + (IntKind.wrap .i32 (a0 - (IntKind.wrap .i64 ((BO.ev .quo .i64 a0 a1) * a1)))))) == a0)) = 0 →
     (0 : Int) ≠ 0))))))))

theorem plain (a0 a1 a2 : Int) (ro : List RO) : TT.hdP (cxOf 2 [(-2147483648, 2147483647), (-2147483648, 2147483647)] [⟨[.int .i64], .v 2, .c 43, .c 43, some 0⟩]) isOne tree (envR [a0, a1, a2] ro) = P a0 a1 a2 := by kernel_rfl

theorem quo_facts {a b : Int} (la : -2147483648 ≤ a) (ua : a ≤ 2147483647) (lb : -2147483648 ≤ b) (ub : b ≤ 2147483647) (hb : b ≠ 0) :
    ∃ r : Int, BO.ev .quo .i64 a b * b = a - r ∧ IntKind.wrap .i64 (BO.ev .quo .i64 a b * b) = a - r ∧ (0 ≤ a → 0 ≤ r) ∧ (a < 0 → r ≤ 0) ∧ r.natAbs < b.natAbs ∧ -2147483648 ≤ r ∧ r ≤ 2147483647 := by
  have h1 := Int.tmod_add_mul_tdiv a b
  have h2 : -2147483648 ≤ a.tdiv b ∧ a.tdiv b ≤ 2147483648 := by
    have := Int.natAbs_tdiv_le_natAbs a b
    omega
  have h3 : (a.tmod b).natAbs < b.natAbs := by
    rw [Int.natAbs_tmod]; exact Nat.mod_lt _ (by omega)
  have h4 : BO.ev .quo .i64 a b = a.tdiv b := wrap_in _ _ (by simp [klo]; omega) (by simp [khi]; omega)
  have h5 : 0 ≤ a → 0 ≤ a.tmod b := fun h => Int.tmod_nonneg b h
  have h6 : a < 0 → a.tmod b ≤ 0 := fun h => by
    have h7 := Int.tmod_nonneg b (show 0 ≤ -a by omega)
    rw [Int.neg_tmod] at h7
    omega
  have e : a.tdiv b * b = a - a.tmod b := by rw [Int.mul_comm]; omega
  refine ⟨a.tmod b, by rw [h4, e], ?_, h5, h6, h3, by omega, by omega⟩
  rw [h4, e]
  exact wrap_in _ _ (by simp [klo]; omega) (by simp [khi]; omega)

theorem holds (a0 a1 : Int) (l0 : -2147483648 ≤ a0) (u0 : a0 ≤ 2147483647) (l1 : -2147483648 ≤ a1) (u1 : a1 ≤ 2147483647) : P a0 a1 (LZ tab0) := by
  have ht : bool01 ((IntKind.wrap .i64 ((IntKind.wrap .i64 (rdZ (LZ tab0) 21)) + 3)) == 5) ≠ 0 := by rw [rdZ_LZ]; decide
  have h5 : (IntKind.wrap .i64 ((IntKind.wrap .i64 (rdZ (LZ tab0) 21)) + 3)) = 5 := by
    rcases Decidable.em ((IntKind.wrap .i64 ((IntKind.wrap .i64 (rdZ (LZ tab0) 21)) + 3)) = 5) with h | h
    · exact h
    · simp [bool01, h] at ht
  unfold P
  rw [h5]
  refine ⟨fun _ => by decide, fun h0 => ?_⟩
  have hb : a1 ≠ 0 := by simpa [bool01] using h0
  obtain ⟨r, q1, q2, q3, q4, q5, q6, q7⟩ := quo_facts l0 u0 l1 u1 hb
  have er : IntKind.wrap .i32 (a0 - IntKind.wrap .i64 (BO.ev .quo .i64 a0 a1 * a1)) = r := by
    rw [q2, show a0 - (a0 - r) = r by omega]; exact wrap_in _ _ (by simp [klo]; omega) (by simp [khi]; omega)
  have ea : IntKind.wrap .i32 (IntKind.wrap .i32 (IntKind.wrap .i32 (BO.ev .quo .i64 a0 a1) * a1) + r) = a0 := by
    rw [wi_b, b_add, b_wrap, b_mul, b_wrap, ← b_mul, q1, ← b_add, show a0 - r + r = a0 by omega, b_self l0 u0]
  rw [er, ea]
  simp only [bool01]
  repeat' first
    | (refine ⟨fun h => ?_, fun h => ?_⟩)
    | (refine And.intro (fun h => ?_) (fun h => ?_))
  all_goals simp_all
  all_goals omega

theorem ran : TT.beq (projL pjB (runT smB (fun _ _ => .auto) 2 [(-2147483648, 2147483647), (-2147483648, 2147483647)] [⟨[.int .i64], .v 2, .c 43, .c 43, some 0⟩] 4 [.int .i32 (.v 0), .int .i32 (.v 1)] ⟨[], []⟩)) tree = true := by kernel_rfl
theorem fineT : (TT.fine (cxOf 2 [(-2147483648, 2147483647), (-2147483648, 2147483647)] [⟨[.int .i64], .v 2, .c 43, .c 43, some 0⟩]) 1000 [] tree && (cxOf 2 [(-2147483648, 2147483647), (-2147483648, 2147483647)] [⟨[.int .i64], .v 2, .c 43, .c 43, some 0⟩]).okB 1000 && SV.vbL 1000 [.int .i32 (.v 0), .int .i32 (.v 1)] && TT.tidy (cxOf 2 [(-2147483648, 2147483647), (-2147483648, 2147483647)] [⟨[.int .i64], .v 2, .c 43, .c 43, some 0⟩]) [] tree) = true := by kernel_rfl
theorem walk (a0 a1 : Int) (w0 : (Lit.int .i32 a0).wf = true) (w1 : (Lit.int .i32 a1).wf = true) (w : World) (t0 : Lib.TabIs Tryd.prog w "astrolabe/ops.costs" .i64 tab0) :
    Calls Tryd.prog 4 #[.int .i32 a0, .int .i32 a1] w fun e w' => e = .returned (.bool true) ∧ Below w.heap.size w w' :=
  lawT_of (runT_ok smB_ok (fun _ _ => .auto) 2 [(-2147483648, 2147483647), (-2147483648, 2147483647)] [⟨[.int .i64], .v 2, .c 43, .c 43, some 0⟩]) (ρ := envR [a0, a1, LZ tab0] [tabRo 0 .i64 tab0]) (envR_ok (cx := cxOf 2 [(-2147483648, 2147483647), (-2147483648, 2147483647)] [⟨[.int .i64], .v 2, .c 43, .c 43, some 0⟩]) rfl rfl (bnd_cons (wf_bd w0) (bnd_cons (wf_bd w1) (bnd_nil _))) ⟨⟨rfl, rfl, rfl, rfl, (fun h => by cases h), fun g h => by cases h; rfl⟩, trivial⟩) (f := 4) (args := [.int .i32 (.v 0), .int .i32 (.v 1)]) (t := tree) ran fineT
    (by rw [plain]; exact holds a0 a1 (wf_bd w0).1 (wf_bd w0).2 (wf_bd w1).1 (wf_bd w1).2) (roOk_of ⟨tabRo_at t0 tabG0 tabW0, trivial⟩) rfl

/-! ### the row's step -/
set_option maxRecDepth 100000
theorem door_met (os : Os) (args : Array Value) : laidMetH Tryd.prog Rows.aluDividesRow.laid ((World.doorLaid Tryd.prog 400 os).forCall (fun _ _ => 0) ⟨#[], args, []⟩).memory :=
  laidMetH_of_parts3 (fuel := 8) (laidMet_of_run' 8 (by kernel_rfl) (by kernel_rfl)) (by kernel_rfl) (by kernel_rfl)
theorem tab_of {W : World} (h : laidMetH Tryd.prog Rows.aluDividesRow.laid W) : Lib.TabIs Tryd.prog W "astrolabe/ops.costs" .i64 tab0 := by
  rw [MakeChecks.laidMetH_plain _ _ _ (by kernel_rfl)] at h
  exact Lib.tabIs_of_head (rest := []) tabG0 (t := 46) (e := 3) (n := 43) (by kernel_rfl) (by kernel_rfl) (by kernel_rfl) (by kernel_rfl) (by kernel_rfl) h

theorem lifted (os : Os) (started : os.Started) (H : Type) (enc : TypeId × Value → H) :
    ReturnsInHanded {} Tryd.checked os 4 .any (fun w args => (Rows.aluDividesSpec.pre enc Tryd.prog Tryd.f4 Rows.aluDividesRow.domain false w args ∧ laidMetH Tryd.prog Rows.aluDividesRow.laid w) ∧ sizedMet enc Tryd.prog Tryd.f4 (OpenSpec.ofChange Rows.aluDividesSpec) false w args)
      (Rows.aluDividesSpec.post enc Tryd.prog Tryd.f4 false true false false) := by
  refine returnsInHanded_of_change_and (C := Tryd.checked) (X := fun w _ => laidMetH Tryd.prog Rows.aluDividesRow.laid w) (fun _ _ _ hh h => h.of_heap hh) own started (by kernel_rfl) Tryd.func4
    (ChangeSpec.witness_shaped (enc := enc) (C := Tryd.checked) (os := os) (X := fun w _ => laidMetH Tryd.prog Rows.aluDividesRow.laid w) false (World.doorLaid Tryd.prog 400 os) #[.int .i32 0, .int .i32 0] 8 rfl (World.shaped_of_RefB (by kernel_rfl) (by kernel_rfl)) (by kernel_rfl) (by kernel_rfl) (by kernel_rfl) (door_met os _)) ?_
  intro W base args ds gs before hval0 hW hcnd _ hL _
  have hval : ∀ (j : Nat) t v, Tryd.f4.params[j]? = some t → args[j]? = some v → Value.okWide Tryd.prog W .any base t v := hval0
  have hW' := hW
  obtain ⟨p, q, hA0, hV, rfl, hfz, hnd⟩ := hW
  have hA : DataW.TrodAll enc Tryd.prog W 0 (fun _ => true) true Tryd.f4.params.toList args.toList ds p := hA0
  rw [Tryd.params4] at hA hval
  obtain ⟨v0, vs0, d0, ds0, p0, q0, hargs, rfl, rfl, h0, r0⟩ := trodAll_cons hA
  obtain ⟨v1, vs1, d1, ds1, p1, q1, rfl, rfl, rfl, h1, r1⟩ := trodAll_cons r0
  obtain ⟨rfl, rfl, rfl⟩ := trodAll_nil r1
  obtain rfl : args = #[v0, v1] := by cases args; simp_all
  obtain ⟨rfl, rfl⟩ := trodVars_none hV
  obtain ⟨a0, rfl, rfl, rfl, w0⟩ := open_int Tryd.underlying21 (hval 0 21 v0 rfl rfl) h0
  obtain ⟨a1, rfl, rfl, rfl, w1⟩ := open_int Tryd.underlying21 (hval 1 21 v1 rfl rfl) h1
  clear hA0 hval0
  simp only [List.append_nil] at hW'
  refine (walk a0 a1 w0 w1 W (tab_of hL)).mono fun e W' ⟨he, hg⟩ => ?_
  subst he
  exact ⟨_, rfl, post_below (pa := []) (pv := []) hW' hg (fun _ _ _ => (trodAll_cons_mk (shut_bool Tryd.underlying4 _) trodAll_mk0)) (fun sp _ => (trodAll_cons_mk (shut_int Tryd.underlying21 w0) (trodAll_cons_mk (shut_int Tryd.underlying21 w1) trodAll_mk0))) (fun _ _ => rfl) rfl
    (ok_one (by kernel_rfl) rfl (okWide_bool_mk Tryd.underlying4 _))⟩

theorem over : Rows.aluDividesRow.holds Tryd.pinned (OpenSpec.ofChange Rows.aluDividesSpec) :=
  OpenClaim.holds_of_wide 4 Tryd.f4 rfl rfl rfl rfl rfl rfl rfl ⟨rfl, rfl, rfl, rfl, rfl⟩ rfl rfl rfl rfl rfl (by kernel_rfl) Tryd.func4 (by kernel_rfl)
    (of_decide_eq_true (by kernel_rfl)) (by unfold Func.isWrapper; first | (rw [if_pos (by decide +kernel)]; kernel_rfl) | (rw [if_neg (by decide +kernel)]; exact ⟨rfl, rfl⟩))
    (fun os started H enc _ => lifted os started H enc)

/-- the statement -/
theorem proved : Rows.AluDividesCardSaid :=
  Claim7.holds_tied_plain_at .later [] [.data] true (true, "a66708c7ca074a02a54ef07774f954fca9e4cd7dd1bfbf93ef4caf8b965f6961") false
    over (fun _ h => by cases h) (by kernel_rfl) (fun _ h => by cases h) aluDivides_row_tie rfl ⟨rfl, rfl⟩ (by kernel_rfl) rfl
    (fun f fn hf hfn => by
      obtain rfl : f = 4 := Option.some.inj ((show Tryd.prog.funcNamed "astrolabe/astrolabelaw07.AluDivides" = some 4 by kernel_rfl).symm.trans hf) |>.symm
      obtain rfl : fn = Tryd.f4 := (Option.some.inj (Tryd.func4.symm.trans hfn)).symm
      exact ⟨by kernel_rfl, fun j t ht => by
        rw [Tryd.params4] at ht
        have h3 : t = 21 := by
          rcases j with _ | _ | j
          · exact (by simpa using ht.symm)
          · exact (by simpa using ht.symm)
          · simp at ht
        rcases h3 with rfl
        · exact (show Tryd.prog.wantsStandIn 21 = false by kernel_rfl)⟩)
    (by kernel_rfl)
#print axioms proved
end Go.Proofs.YtjooaieolphomaaDoor.aluDivides
