/-
  The law AluTells answers true at every input: the law's function is run by the engine (a program's symbolic run, proved sound), and the tree of its answers, as a plain statement, is shown to hold. No condition but the table that the row lays, tied to the program's text by the card.
-/
import Derived.Test.YtjooaieolphomaaGreatDoorRows
import Derived.Test.YtjooaieolphomaaGreatDoorLawAluTellsO
import Derived.Test.YtjooaieolphomaaGreatDoorCards
import Derived.Test.YtjooaieolphomaaGreatDoorTie
import Derived.Test.YtjooaieolphomaaGreatDoorFmM
import Derived.Test.YtjooaieolphomaaGreatDoorEu4
import Derived.Test.YtjooaieolphomaaGreatDoorEu5
import Derived.WalkKit
import Derived.ProofKit
import Derived.OpenShut
import Derived.LaidMore
import Derived.Stop.Joined
import Derived.SevenTiedAt
namespace Go.Proofs.YtjooaieolphomaaGreatDoor.aluTells
open Go.ChangeShapes Go.WideShapes Go.ChangeAt Go.RowKit
open Go.Eng
set_option linter.unusedVariables false
set_option linter.unusedSimpArgs false

set_option maxRecDepth 100000
namespace c0
def tree : TT (List E) :=
(.leaf [(.b .eq .i64 (.w .i64 (.b .padd .i64 (.w .i64 (.f 13 (.v 3) (.c 21) (.c 0))) (.c 3))) (.c 5))])

def P (a0 a1 a2 a3 : Int) : Prop :=
 ((bool01 ((IntKind.wrap .i64 ((IntKind.wrap .i64 (rdZ a3 21)) + 3)) == 5)) : Int) ≠ 0

theorem plain (a0 a1 a2 a3 : Int) (ro : List RO) : TT.hdP (cxOf 2 [(-9223372036854775808, 0), (-2147483648, 2147483647), (-2147483648, 2147483647)] [⟨[.int .i64], .v 3, .c 43, .c 43, some 0⟩]) isOne tree (envR [a0, a1, a2, a3] ro) = P a0 a1 a2 a3 := by kernel_rfl

theorem holds (a0 a1 a2 : Int) (l0 : -9223372036854775808 ≤ a0) (u0 : a0 ≤ 0) (l1 : -2147483648 ≤ a1) (u1 : a1 ≤ 2147483647) (l2 : -2147483648 ≤ a2) (u2 : a2 ≤ 2147483647) : P a0 a1 a2 (LZ tab0) := by
  have h5 : (IntKind.wrap .i64 ((IntKind.wrap .i64 (rdZ (LZ tab0) 21)) + 3)) = 5 := by rw [rdZ_LZ]; decide
  have r1 : -9223372036854775808 < 1 ∨ 43 < -9223372036854775808 ∨ IntKind.wrap .i64 (rdZ (LZ tab0) (-9223372036854775809)) = 0 := by
    first
      | exact .inl (by decide)
      | exact .inr (.inl (by decide))
      | exact .inr (.inr (by rw [rdZ_LZ]; decide))
  unfold P
  first
    | (rcases r1 with r1 | r1 | r1 <;> simp [h5, r1, bool01]; done)
    | (simp [h5, bool01]; done)
    | (simp [h5] at *; simp_all [bool01]; done)

theorem ran : TT.beq (projL pjB (runA [(-9223372036854775808, 0), (-2147483648, 2147483647), (-2147483648, 2147483647)] 3 [.int .i64 (.v 0), .int .i32 (.v 1), .int .i32 (.v 2)] ⟨[], []⟩)) tree = true := by kernel_rfl
theorem fineT : (TT.fine (cxOf 2 [(-9223372036854775808, 0), (-2147483648, 2147483647), (-2147483648, 2147483647)] [⟨[.int .i64], .v 3, .c 43, .c 43, some 0⟩]) 1000 [] tree && (cxOf 2 [(-9223372036854775808, 0), (-2147483648, 2147483647), (-2147483648, 2147483647)] [⟨[.int .i64], .v 3, .c 43, .c 43, some 0⟩]).okB 1000 && SV.vbL 1000 [.int .i64 (.v 0), .int .i32 (.v 1), .int .i32 (.v 2)] && TT.tidy (cxOf 2 [(-9223372036854775808, 0), (-2147483648, 2147483647), (-2147483648, 2147483647)] [⟨[.int .i64], .v 3, .c 43, .c 43, some 0⟩]) [] tree) = true := by kernel_rfl
theorem walk (a0 a1 a2 : Int) (w0 : (Lit.int .i64 a0).wf = true) (w1 : (Lit.int .i32 a1).wf = true) (w2 : (Lit.int .i32 a2).wf = true) (w : World) (t0 : Lib.TabIs Tryz.prog w "astrolabe/ops.costs" .i64 tab0) (hc : -9223372036854775808 ≤ a0 ∧ a0 ≤ 0) :
    Calls Tryz.prog 3 #[.int .i64 a0, .int .i32 a1, .int .i32 a2] w fun e w' => e = .returned (.bool true) ∧ Below w.heap.size w w' :=
  lawT_of (runA_ok [(-9223372036854775808, 0), (-2147483648, 2147483647), (-2147483648, 2147483647)]) (ρ := envR [a0, a1, a2, LZ tab0] [tabRo 0 .i64 tab0]) (envR_ok (cx := cxOf 2 [(-9223372036854775808, 0), (-2147483648, 2147483647), (-2147483648, 2147483647)] [⟨[.int .i64], .v 3, .c 43, .c 43, some 0⟩]) rfl rfl (bnd_cons hc (bnd_cons (wf_bd w1) (bnd_cons (wf_bd w2) (bnd_nil _)))) ⟨⟨rfl, rfl, rfl, rfl, (fun h => by cases h), fun g h => by cases h; rfl⟩, trivial⟩) (f := 3) (args := [.int .i64 (.v 0), .int .i32 (.v 1), .int .i32 (.v 2)]) (t := tree) ran fineT
    (by rw [plain]; exact holds a0 a1 a2 hc.1 hc.2 (wf_bd w1).1 (wf_bd w1).2 (wf_bd w2).1 (wf_bd w2).2) (roOk_of ⟨tabRo_at t0 tabG0 tabW0, trivial⟩) rfl

end c0

namespace c1
def tree : TT (List E) :=
(.br (.b .eq .i64 (.v 2) (.c 0))
  (.br (.b .eq .i64 (.w .i64 (.f 13 (.v 3) (.c 0) (.c 0))) (.c 1))
  (.leaf [(.b .eq .i64 (.w .i64 (.b .padd .i64 (.w .i64 (.f 13 (.v 3) (.c 21) (.c 0))) (.c 3))) (.c 5))])
  (.leaf [(.c 0)]))
  (.br (.b .eq .i64 (.w .i64 (.f 13 (.v 3) (.c 0) (.c 0))) (.c 1))
  (.leaf [(.b .eq .i64 (.w .i64 (.b .padd .i64 (.w .i64 (.f 13 (.v 3) (.c 21) (.c 0))) (.c 3))) (.c 5))])
  (.leaf [(.c 0)])))

def P (a0 a1 a2 a3 : Int) : Prop :=
 (((bool01 (a2 == 0)) ≠ 0 →
  (((bool01 ((IntKind.wrap .i64 (rdZ a3 0)) == 1)) ≠ 0 →
   ((bool01 ((IntKind.wrap .i64 ((IntKind.wrap .i64 (rdZ a3 21)) + 3)) == 5)) : Int) ≠ 0) ∧ ((bool01 ((IntKind.wrap .i64 (rdZ a3 0)) == 1)) = 0 →
   (0 : Int) ≠ 0))) ∧ ((bool01 (a2 == 0)) = 0 →
  (((bool01 ((IntKind.wrap .i64 (rdZ a3 0)) == 1)) ≠ 0 →
   ((bool01 ((IntKind.wrap .i64 ((IntKind.wrap .i64 (rdZ a3 21)) + 3)) == 5)) : Int) ≠ 0) ∧ ((bool01 ((IntKind.wrap .i64 (rdZ a3 0)) == 1)) = 0 →
   (0 : Int) ≠ 0))))

theorem plain (a0 a1 a2 a3 : Int) (ro : List RO) : TT.hdP (cxOf 2 [(1, 1), (-2147483648, 2147483647), (-2147483648, 2147483647)] [⟨[.int .i64], .v 3, .c 43, .c 43, some 0⟩]) isOne tree (envR [a0, a1, a2, a3] ro) = P a0 a1 a2 a3 := by kernel_rfl

theorem holds (a0 a1 a2 : Int) (l0 : 1 ≤ a0) (u0 : a0 ≤ 1) (l1 : -2147483648 ≤ a1) (u1 : a1 ≤ 2147483647) (l2 : -2147483648 ≤ a2) (u2 : a2 ≤ 2147483647) : P a0 a1 a2 (LZ tab0) := by
  have h5 : (IntKind.wrap .i64 ((IntKind.wrap .i64 (rdZ (LZ tab0) 21)) + 3)) = 5 := by rw [rdZ_LZ]; decide
  have r1 : 1 < 1 ∨ 43 < 1 ∨ IntKind.wrap .i64 (rdZ (LZ tab0) (0)) = 1 := by
    first
      | exact .inl (by decide)
      | exact .inr (.inl (by decide))
      | exact .inr (.inr (by rw [rdZ_LZ]; decide))
  unfold P
  first
    | (rcases r1 with r1 | r1 | r1 <;> simp [h5, r1, bool01]; done)
    | (simp [h5, bool01]; done)
    | (simp [h5] at *; simp_all [bool01]; done)

theorem ran : TT.beq (projL pjB (runA [(1, 1), (-2147483648, 2147483647), (-2147483648, 2147483647)] 3 [.int .i64 (.c 1), .int .i32 (.v 1), .int .i32 (.v 2)] ⟨[], []⟩)) tree = true := by kernel_rfl
theorem fineT : (TT.fine (cxOf 2 [(1, 1), (-2147483648, 2147483647), (-2147483648, 2147483647)] [⟨[.int .i64], .v 3, .c 43, .c 43, some 0⟩]) 1000 [] tree && (cxOf 2 [(1, 1), (-2147483648, 2147483647), (-2147483648, 2147483647)] [⟨[.int .i64], .v 3, .c 43, .c 43, some 0⟩]).okB 1000 && SV.vbL 1000 [.int .i64 (.c 1), .int .i32 (.v 1), .int .i32 (.v 2)] && TT.tidy (cxOf 2 [(1, 1), (-2147483648, 2147483647), (-2147483648, 2147483647)] [⟨[.int .i64], .v 3, .c 43, .c 43, some 0⟩]) [] tree) = true := by kernel_rfl
theorem walk (a0 a1 a2 : Int) (w0 : (Lit.int .i64 a0).wf = true) (w1 : (Lit.int .i32 a1).wf = true) (w2 : (Lit.int .i32 a2).wf = true) (w : World) (t0 : Lib.TabIs Tryz.prog w "astrolabe/ops.costs" .i64 tab0) (hc : 1 ≤ a0 ∧ a0 ≤ 1) :
    Calls Tryz.prog 3 #[.int .i64 a0, .int .i32 a1, .int .i32 a2] w fun e w' => e = .returned (.bool true) ∧ Below w.heap.size w w' :=
  lawT_of (runA_ok [(1, 1), (-2147483648, 2147483647), (-2147483648, 2147483647)]) (ρ := envR [a0, a1, a2, LZ tab0] [tabRo 0 .i64 tab0]) (envR_ok (cx := cxOf 2 [(1, 1), (-2147483648, 2147483647), (-2147483648, 2147483647)] [⟨[.int .i64], .v 3, .c 43, .c 43, some 0⟩]) rfl rfl (bnd_cons hc (bnd_cons (wf_bd w1) (bnd_cons (wf_bd w2) (bnd_nil _)))) ⟨⟨rfl, rfl, rfl, rfl, (fun h => by cases h), fun g h => by cases h; rfl⟩, trivial⟩) (f := 3) (args := [.int .i64 (.c 1), .int .i32 (.v 1), .int .i32 (.v 2)]) (t := tree) ran fineT
    (by rw [plain]; exact holds a0 a1 a2 hc.1 hc.2 (wf_bd w1).1 (wf_bd w1).2 (wf_bd w2).1 (wf_bd w2).2) (roOk_of ⟨tabRo_at t0 tabG0 tabW0, trivial⟩) (by obtain rfl : a0 = 1 := (by omega); rfl)

end c1

namespace c2
def tree : TT (List E) :=
(.br (.b .eq .i64 (.v 2) (.c 0))
  (.br (.b .eq .i64 (.w .i64 (.f 13 (.v 3) (.c 1) (.c 0))) (.c 1))
  (.leaf [(.b .eq .i64 (.w .i64 (.b .padd .i64 (.w .i64 (.f 13 (.v 3) (.c 21) (.c 0))) (.c 3))) (.c 5))])
  (.leaf [(.c 0)]))
  (.br (.b .eq .i64 (.w .i64 (.f 13 (.v 3) (.c 1) (.c 0))) (.c 1))
  (.leaf [(.b .eq .i64 (.w .i64 (.b .padd .i64 (.w .i64 (.f 13 (.v 3) (.c 21) (.c 0))) (.c 3))) (.c 5))])
  (.leaf [(.c 0)])))

def P (a0 a1 a2 a3 : Int) : Prop :=
 (((bool01 (a2 == 0)) ≠ 0 →
  (((bool01 ((IntKind.wrap .i64 (rdZ a3 1)) == 1)) ≠ 0 →
   ((bool01 ((IntKind.wrap .i64 ((IntKind.wrap .i64 (rdZ a3 21)) + 3)) == 5)) : Int) ≠ 0) ∧ ((bool01 ((IntKind.wrap .i64 (rdZ a3 1)) == 1)) = 0 →
   (0 : Int) ≠ 0))) ∧ ((bool01 (a2 == 0)) = 0 →
  (((bool01 ((IntKind.wrap .i64 (rdZ a3 1)) == 1)) ≠ 0 →
   ((bool01 ((IntKind.wrap .i64 ((IntKind.wrap .i64 (rdZ a3 21)) + 3)) == 5)) : Int) ≠ 0) ∧ ((bool01 ((IntKind.wrap .i64 (rdZ a3 1)) == 1)) = 0 →
   (0 : Int) ≠ 0))))

theorem plain (a0 a1 a2 a3 : Int) (ro : List RO) : TT.hdP (cxOf 2 [(2, 2), (-2147483648, 2147483647), (-2147483648, 2147483647)] [⟨[.int .i64], .v 3, .c 43, .c 43, some 0⟩]) isOne tree (envR [a0, a1, a2, a3] ro) = P a0 a1 a2 a3 := by kernel_rfl

theorem holds (a0 a1 a2 : Int) (l0 : 2 ≤ a0) (u0 : a0 ≤ 2) (l1 : -2147483648 ≤ a1) (u1 : a1 ≤ 2147483647) (l2 : -2147483648 ≤ a2) (u2 : a2 ≤ 2147483647) : P a0 a1 a2 (LZ tab0) := by
  have h5 : (IntKind.wrap .i64 ((IntKind.wrap .i64 (rdZ (LZ tab0) 21)) + 3)) = 5 := by rw [rdZ_LZ]; decide
  have r1 : 2 < 1 ∨ 43 < 2 ∨ IntKind.wrap .i64 (rdZ (LZ tab0) (1)) = 1 := by
    first
      | exact .inl (by decide)
      | exact .inr (.inl (by decide))
      | exact .inr (.inr (by rw [rdZ_LZ]; decide))
  unfold P
  first
    | (rcases r1 with r1 | r1 | r1 <;> simp [h5, r1, bool01]; done)
    | (simp [h5, bool01]; done)
    | (simp [h5] at *; simp_all [bool01]; done)

theorem ran : TT.beq (projL pjB (runA [(2, 2), (-2147483648, 2147483647), (-2147483648, 2147483647)] 3 [.int .i64 (.c 2), .int .i32 (.v 1), .int .i32 (.v 2)] ⟨[], []⟩)) tree = true := by kernel_rfl
theorem fineT : (TT.fine (cxOf 2 [(2, 2), (-2147483648, 2147483647), (-2147483648, 2147483647)] [⟨[.int .i64], .v 3, .c 43, .c 43, some 0⟩]) 1000 [] tree && (cxOf 2 [(2, 2), (-2147483648, 2147483647), (-2147483648, 2147483647)] [⟨[.int .i64], .v 3, .c 43, .c 43, some 0⟩]).okB 1000 && SV.vbL 1000 [.int .i64 (.c 2), .int .i32 (.v 1), .int .i32 (.v 2)] && TT.tidy (cxOf 2 [(2, 2), (-2147483648, 2147483647), (-2147483648, 2147483647)] [⟨[.int .i64], .v 3, .c 43, .c 43, some 0⟩]) [] tree) = true := by kernel_rfl
theorem walk (a0 a1 a2 : Int) (w0 : (Lit.int .i64 a0).wf = true) (w1 : (Lit.int .i32 a1).wf = true) (w2 : (Lit.int .i32 a2).wf = true) (w : World) (t0 : Lib.TabIs Tryz.prog w "astrolabe/ops.costs" .i64 tab0) (hc : 2 ≤ a0 ∧ a0 ≤ 2) :
    Calls Tryz.prog 3 #[.int .i64 a0, .int .i32 a1, .int .i32 a2] w fun e w' => e = .returned (.bool true) ∧ Below w.heap.size w w' :=
  lawT_of (runA_ok [(2, 2), (-2147483648, 2147483647), (-2147483648, 2147483647)]) (ρ := envR [a0, a1, a2, LZ tab0] [tabRo 0 .i64 tab0]) (envR_ok (cx := cxOf 2 [(2, 2), (-2147483648, 2147483647), (-2147483648, 2147483647)] [⟨[.int .i64], .v 3, .c 43, .c 43, some 0⟩]) rfl rfl (bnd_cons hc (bnd_cons (wf_bd w1) (bnd_cons (wf_bd w2) (bnd_nil _)))) ⟨⟨rfl, rfl, rfl, rfl, (fun h => by cases h), fun g h => by cases h; rfl⟩, trivial⟩) (f := 3) (args := [.int .i64 (.c 2), .int .i32 (.v 1), .int .i32 (.v 2)]) (t := tree) ran fineT
    (by rw [plain]; exact holds a0 a1 a2 hc.1 hc.2 (wf_bd w1).1 (wf_bd w1).2 (wf_bd w2).1 (wf_bd w2).2) (roOk_of ⟨tabRo_at t0 tabG0 tabW0, trivial⟩) (by obtain rfl : a0 = 2 := (by omega); rfl)

end c2

namespace c3
def tree : TT (List E) :=
(.br (.b .eq .i64 (.v 2) (.c 0))
  (.br (.b .eq .i64 (.w .i64 (.f 13 (.v 3) (.c 2) (.c 0))) (.c 1))
  (.leaf [(.b .eq .i64 (.w .i64 (.b .padd .i64 (.w .i64 (.f 13 (.v 3) (.c 21) (.c 0))) (.c 3))) (.c 5))])
  (.leaf [(.c 0)]))
  (.br (.b .eq .i64 (.w .i64 (.f 13 (.v 3) (.c 2) (.c 0))) (.c 1))
  (.leaf [(.b .eq .i64 (.w .i64 (.b .padd .i64 (.w .i64 (.f 13 (.v 3) (.c 21) (.c 0))) (.c 3))) (.c 5))])
  (.leaf [(.c 0)])))

def P (a0 a1 a2 a3 : Int) : Prop :=
 (((bool01 (a2 == 0)) ≠ 0 →
  (((bool01 ((IntKind.wrap .i64 (rdZ a3 2)) == 1)) ≠ 0 →
   ((bool01 ((IntKind.wrap .i64 ((IntKind.wrap .i64 (rdZ a3 21)) + 3)) == 5)) : Int) ≠ 0) ∧ ((bool01 ((IntKind.wrap .i64 (rdZ a3 2)) == 1)) = 0 →
   (0 : Int) ≠ 0))) ∧ ((bool01 (a2 == 0)) = 0 →
  (((bool01 ((IntKind.wrap .i64 (rdZ a3 2)) == 1)) ≠ 0 →
   ((bool01 ((IntKind.wrap .i64 ((IntKind.wrap .i64 (rdZ a3 21)) + 3)) == 5)) : Int) ≠ 0) ∧ ((bool01 ((IntKind.wrap .i64 (rdZ a3 2)) == 1)) = 0 →
   (0 : Int) ≠ 0))))

theorem plain (a0 a1 a2 a3 : Int) (ro : List RO) : TT.hdP (cxOf 2 [(3, 3), (-2147483648, 2147483647), (-2147483648, 2147483647)] [⟨[.int .i64], .v 3, .c 43, .c 43, some 0⟩]) isOne tree (envR [a0, a1, a2, a3] ro) = P a0 a1 a2 a3 := by kernel_rfl

theorem holds (a0 a1 a2 : Int) (l0 : 3 ≤ a0) (u0 : a0 ≤ 3) (l1 : -2147483648 ≤ a1) (u1 : a1 ≤ 2147483647) (l2 : -2147483648 ≤ a2) (u2 : a2 ≤ 2147483647) : P a0 a1 a2 (LZ tab0) := by
  have h5 : (IntKind.wrap .i64 ((IntKind.wrap .i64 (rdZ (LZ tab0) 21)) + 3)) = 5 := by rw [rdZ_LZ]; decide
  have r1 : 3 < 1 ∨ 43 < 3 ∨ IntKind.wrap .i64 (rdZ (LZ tab0) (2)) = 1 := by
    first
      | exact .inl (by decide)
      | exact .inr (.inl (by decide))
      | exact .inr (.inr (by rw [rdZ_LZ]; decide))
  unfold P
  first
    | (rcases r1 with r1 | r1 | r1 <;> simp [h5, r1, bool01]; done)
    | (simp [h5, bool01]; done)
    | (simp [h5] at *; simp_all [bool01]; done)

theorem ran : TT.beq (projL pjB (runA [(3, 3), (-2147483648, 2147483647), (-2147483648, 2147483647)] 3 [.int .i64 (.c 3), .int .i32 (.v 1), .int .i32 (.v 2)] ⟨[], []⟩)) tree = true := by kernel_rfl
theorem fineT : (TT.fine (cxOf 2 [(3, 3), (-2147483648, 2147483647), (-2147483648, 2147483647)] [⟨[.int .i64], .v 3, .c 43, .c 43, some 0⟩]) 1000 [] tree && (cxOf 2 [(3, 3), (-2147483648, 2147483647), (-2147483648, 2147483647)] [⟨[.int .i64], .v 3, .c 43, .c 43, some 0⟩]).okB 1000 && SV.vbL 1000 [.int .i64 (.c 3), .int .i32 (.v 1), .int .i32 (.v 2)] && TT.tidy (cxOf 2 [(3, 3), (-2147483648, 2147483647), (-2147483648, 2147483647)] [⟨[.int .i64], .v 3, .c 43, .c 43, some 0⟩]) [] tree) = true := by kernel_rfl
theorem walk (a0 a1 a2 : Int) (w0 : (Lit.int .i64 a0).wf = true) (w1 : (Lit.int .i32 a1).wf = true) (w2 : (Lit.int .i32 a2).wf = true) (w : World) (t0 : Lib.TabIs Tryz.prog w "astrolabe/ops.costs" .i64 tab0) (hc : 3 ≤ a0 ∧ a0 ≤ 3) :
    Calls Tryz.prog 3 #[.int .i64 a0, .int .i32 a1, .int .i32 a2] w fun e w' => e = .returned (.bool true) ∧ Below w.heap.size w w' :=
  lawT_of (runA_ok [(3, 3), (-2147483648, 2147483647), (-2147483648, 2147483647)]) (ρ := envR [a0, a1, a2, LZ tab0] [tabRo 0 .i64 tab0]) (envR_ok (cx := cxOf 2 [(3, 3), (-2147483648, 2147483647), (-2147483648, 2147483647)] [⟨[.int .i64], .v 3, .c 43, .c 43, some 0⟩]) rfl rfl (bnd_cons hc (bnd_cons (wf_bd w1) (bnd_cons (wf_bd w2) (bnd_nil _)))) ⟨⟨rfl, rfl, rfl, rfl, (fun h => by cases h), fun g h => by cases h; rfl⟩, trivial⟩) (f := 3) (args := [.int .i64 (.c 3), .int .i32 (.v 1), .int .i32 (.v 2)]) (t := tree) ran fineT
    (by rw [plain]; exact holds a0 a1 a2 hc.1 hc.2 (wf_bd w1).1 (wf_bd w1).2 (wf_bd w2).1 (wf_bd w2).2) (roOk_of ⟨tabRo_at t0 tabG0 tabW0, trivial⟩) (by obtain rfl : a0 = 3 := (by omega); rfl)

end c3

namespace c4
def tree : TT (List E) :=
(.br (.b .eq .i64 (.v 2) (.c 0))
  (.br (.b .eq .i64 (.w .i64 (.f 13 (.v 3) (.c 3) (.c 0))) (.c 1))
  (.leaf [(.b .eq .i64 (.w .i64 (.b .padd .i64 (.w .i64 (.f 13 (.v 3) (.c 21) (.c 0))) (.c 3))) (.c 5))])
  (.leaf [(.c 0)]))
  (.br (.b .eq .i64 (.w .i64 (.f 13 (.v 3) (.c 3) (.c 0))) (.c 1))
  (.leaf [(.b .eq .i64 (.w .i64 (.b .padd .i64 (.w .i64 (.f 13 (.v 3) (.c 21) (.c 0))) (.c 3))) (.c 5))])
  (.leaf [(.c 0)])))

def P (a0 a1 a2 a3 : Int) : Prop :=
 (((bool01 (a2 == 0)) ≠ 0 →
  (((bool01 ((IntKind.wrap .i64 (rdZ a3 3)) == 1)) ≠ 0 →
   ((bool01 ((IntKind.wrap .i64 ((IntKind.wrap .i64 (rdZ a3 21)) + 3)) == 5)) : Int) ≠ 0) ∧ ((bool01 ((IntKind.wrap .i64 (rdZ a3 3)) == 1)) = 0 →
   (0 : Int) ≠ 0))) ∧ ((bool01 (a2 == 0)) = 0 →
  (((bool01 ((IntKind.wrap .i64 (rdZ a3 3)) == 1)) ≠ 0 →
   ((bool01 ((IntKind.wrap .i64 ((IntKind.wrap .i64 (rdZ a3 21)) + 3)) == 5)) : Int) ≠ 0) ∧ ((bool01 ((IntKind.wrap .i64 (rdZ a3 3)) == 1)) = 0 →
   (0 : Int) ≠ 0))))

theorem plain (a0 a1 a2 a3 : Int) (ro : List RO) : TT.hdP (cxOf 2 [(4, 4), (-2147483648, 2147483647), (-2147483648, 2147483647)] [⟨[.int .i64], .v 3, .c 43, .c 43, some 0⟩]) isOne tree (envR [a0, a1, a2, a3] ro) = P a0 a1 a2 a3 := by kernel_rfl

theorem holds (a0 a1 a2 : Int) (l0 : 4 ≤ a0) (u0 : a0 ≤ 4) (l1 : -2147483648 ≤ a1) (u1 : a1 ≤ 2147483647) (l2 : -2147483648 ≤ a2) (u2 : a2 ≤ 2147483647) : P a0 a1 a2 (LZ tab0) := by
  have h5 : (IntKind.wrap .i64 ((IntKind.wrap .i64 (rdZ (LZ tab0) 21)) + 3)) = 5 := by rw [rdZ_LZ]; decide
  have r1 : 4 < 1 ∨ 43 < 4 ∨ IntKind.wrap .i64 (rdZ (LZ tab0) (3)) = 1 := by
    first
      | exact .inl (by decide)
      | exact .inr (.inl (by decide))
      | exact .inr (.inr (by rw [rdZ_LZ]; decide))
  unfold P
  first
    | (rcases r1 with r1 | r1 | r1 <;> simp [h5, r1, bool01]; done)
    | (simp [h5, bool01]; done)
    | (simp [h5] at *; simp_all [bool01]; done)

theorem ran : TT.beq (projL pjB (runA [(4, 4), (-2147483648, 2147483647), (-2147483648, 2147483647)] 3 [.int .i64 (.c 4), .int .i32 (.v 1), .int .i32 (.v 2)] ⟨[], []⟩)) tree = true := by kernel_rfl
theorem fineT : (TT.fine (cxOf 2 [(4, 4), (-2147483648, 2147483647), (-2147483648, 2147483647)] [⟨[.int .i64], .v 3, .c 43, .c 43, some 0⟩]) 1000 [] tree && (cxOf 2 [(4, 4), (-2147483648, 2147483647), (-2147483648, 2147483647)] [⟨[.int .i64], .v 3, .c 43, .c 43, some 0⟩]).okB 1000 && SV.vbL 1000 [.int .i64 (.c 4), .int .i32 (.v 1), .int .i32 (.v 2)] && TT.tidy (cxOf 2 [(4, 4), (-2147483648, 2147483647), (-2147483648, 2147483647)] [⟨[.int .i64], .v 3, .c 43, .c 43, some 0⟩]) [] tree) = true := by kernel_rfl
theorem walk (a0 a1 a2 : Int) (w0 : (Lit.int .i64 a0).wf = true) (w1 : (Lit.int .i32 a1).wf = true) (w2 : (Lit.int .i32 a2).wf = true) (w : World) (t0 : Lib.TabIs Tryz.prog w "astrolabe/ops.costs" .i64 tab0) (hc : 4 ≤ a0 ∧ a0 ≤ 4) :
    Calls Tryz.prog 3 #[.int .i64 a0, .int .i32 a1, .int .i32 a2] w fun e w' => e = .returned (.bool true) ∧ Below w.heap.size w w' :=
  lawT_of (runA_ok [(4, 4), (-2147483648, 2147483647), (-2147483648, 2147483647)]) (ρ := envR [a0, a1, a2, LZ tab0] [tabRo 0 .i64 tab0]) (envR_ok (cx := cxOf 2 [(4, 4), (-2147483648, 2147483647), (-2147483648, 2147483647)] [⟨[.int .i64], .v 3, .c 43, .c 43, some 0⟩]) rfl rfl (bnd_cons hc (bnd_cons (wf_bd w1) (bnd_cons (wf_bd w2) (bnd_nil _)))) ⟨⟨rfl, rfl, rfl, rfl, (fun h => by cases h), fun g h => by cases h; rfl⟩, trivial⟩) (f := 3) (args := [.int .i64 (.c 4), .int .i32 (.v 1), .int .i32 (.v 2)]) (t := tree) ran fineT
    (by rw [plain]; exact holds a0 a1 a2 hc.1 hc.2 (wf_bd w1).1 (wf_bd w1).2 (wf_bd w2).1 (wf_bd w2).2) (roOk_of ⟨tabRo_at t0 tabG0 tabW0, trivial⟩) (by obtain rfl : a0 = 4 := (by omega); rfl)

end c4

namespace c5
def tree : TT (List E) :=
(.br (.b .eq .i64 (.v 2) (.c 0))
  (.br (.b .eq .i64 (.b .and .i32 (.v 1) (.v 2)) (.w .i32 (.b .padd .i64 (.b .pmul .i64 (.c 2) (.b .padd .i64 (.b .pmul .i64 (.c 2) (.b .padd .i64 (.b .pmul .i64 (.c 2) (.b .padd .i64 (.b .pmul .i64 (.c 2) (.b .padd .i64 (.b .pmul .i64 (.c 2) (.b .padd .i64 (.b .pmul .i64 (.c 2) (.b .padd .i64 (.b .pmul .i64 (.c 2) (.b .padd .i64 (.b .pmul .i64 (.c 2) (.b .padd .i64 (.b .pmul .i64 (.c 2) (.b .padd .i64 (.b .pmul .i64 (.c 2) (.b .padd .i64 (.b .pmul .i64 (.c 2) (.b .padd .i64 (.b .pmul .i64 (.c 2) (.b .padd .i64 (.b .pmul .i64 (.c 2) (.b .padd .i64 (.b .pmul .i64 (.c 2) (.b .padd .i64 (.b .pmul .i64 (.c 2) (.b .padd .i64 (.b .pmul .i64 (.c 2) (.b .padd .i64 (.b .pmul .i64 (.c 2) (.b .padd .i64 (.b .pmul .i64 (.c 2) (.b .padd .i64 (.b .pmul .i64 (.c 2) (.b .padd .i64 (.b .pmul .i64 (.c 2) (.b .padd .i64 (.b .pmul .i64 (.c 2) (.b .padd .i64 (.b .pmul .i64 (.c 2) (.b .padd .i64 (.b .pmul .i64 (.c 2) (.b .padd .i64 (.b .pmul .i64 (.c 2) (.b .padd .i64 (.b .pmul .i64 (.c 2) (.b .padd .i64 (.b .pmul .i64 (.c 2) (.b .padd .i64 (.b .pmul .i64 (.c 2) (.b .padd .i64 (.b .pmul .i64 (.c 2) (.b .padd .i64 (.b .pmul .i64 (.c 2) (.b .padd .i64 (.b .pmul .i64 (.c 2) (.b .padd .i64 (.b .pmul .i64 (.c 2) (.b .pmul .i64 (.f 2 (.v 1) (.c 31) (.c 0)) (.f 2 (.v 2) (.c 31) (.c 0)))) (.b .pmul .i64 (.f 2 (.v 1) (.c 30) (.c 0)) (.f 2 (.v 2) (.c 30) (.c 0))))) (.b .pmul .i64 (.f 2 (.v 1) (.c 29) (.c 0)) (.f 2 (.v 2) (.c 29) (.c 0))))) (.b .pmul .i64 (.f 2 (.v 1) (.c 28) (.c 0)) (.f 2 (.v 2) (.c 28) (.c 0))))) (.b .pmul .i64 (.f 2 (.v 1) (.c 27) (.c 0)) (.f 2 (.v 2) (.c 27) (.c 0))))) (.b .pmul .i64 (.f 2 (.v 1) (.c 26) (.c 0)) (.f 2 (.v 2) (.c 26) (.c 0))))) (.b .pmul .i64 (.f 2 (.v 1) (.c 25) (.c 0)) (.f 2 (.v 2) (.c 25) (.c 0))))) (.b .pmul .i64 (.f 2 (.v 1) (.c 24) (.c 0)) (.f 2 (.v 2) (.c 24) (.c 0))))) (.b .pmul .i64 (.f 2 (.v 1) (.c 23) (.c 0)) (.f 2 (.v 2) (.c 23) (.c 0))))) (.b .pmul .i64 (.f 2 (.v 1) (.c 22) (.c 0)) (.f 2 (.v 2) (.c 22) (.c 0))))) (.b .pmul .i64 (.f 2 (.v 1) (.c 21) (.c 0)) (.f 2 (.v 2) (.c 21) (.c 0))))) (.b .pmul .i64 (.f 2 (.v 1) (.c 20) (.c 0)) (.f 2 (.v 2) (.c 20) (.c 0))))) (.b .pmul .i64 (.f 2 (.v 1) (.c 19) (.c 0)) (.f 2 (.v 2) (.c 19) (.c 0))))) (.b .pmul .i64 (.f 2 (.v 1) (.c 18) (.c 0)) (.f 2 (.v 2) (.c 18) (.c 0))))) (.b .pmul .i64 (.f 2 (.v 1) (.c 17) (.c 0)) (.f 2 (.v 2) (.c 17) (.c 0))))) (.b .pmul .i64 (.f 2 (.v 1) (.c 16) (.c 0)) (.f 2 (.v 2) (.c 16) (.c 0))))) (.b .pmul .i64 (.f 2 (.v 1) (.c 15) (.c 0)) (.f 2 (.v 2) (.c 15) (.c 0))))) (.b .pmul .i64 (.f 2 (.v 1) (.c 14) (.c 0)) (.f 2 (.v 2) (.c 14) (.c 0))))) (.b .pmul .i64 (.f 2 (.v 1) (.c 13) (.c 0)) (.f 2 (.v 2) (.c 13) (.c 0))))) (.b .pmul .i64 (.f 2 (.v 1) (.c 12) (.c 0)) (.f 2 (.v 2) (.c 12) (.c 0))))) (.b .pmul .i64 (.f 2 (.v 1) (.c 11) (.c 0)) (.f 2 (.v 2) (.c 11) (.c 0))))) (.b .pmul .i64 (.f 2 (.v 1) (.c 10) (.c 0)) (.f 2 (.v 2) (.c 10) (.c 0))))) (.b .pmul .i64 (.f 2 (.v 1) (.c 9) (.c 0)) (.f 2 (.v 2) (.c 9) (.c 0))))) (.b .pmul .i64 (.f 2 (.v 1) (.c 8) (.c 0)) (.f 2 (.v 2) (.c 8) (.c 0))))) (.b .pmul .i64 (.f 2 (.v 1) (.c 7) (.c 0)) (.f 2 (.v 2) (.c 7) (.c 0))))) (.b .pmul .i64 (.f 2 (.v 1) (.c 6) (.c 0)) (.f 2 (.v 2) (.c 6) (.c 0))))) (.b .pmul .i64 (.f 2 (.v 1) (.c 5) (.c 0)) (.f 2 (.v 2) (.c 5) (.c 0))))) (.b .pmul .i64 (.f 2 (.v 1) (.c 4) (.c 0)) (.f 2 (.v 2) (.c 4) (.c 0))))) (.b .pmul .i64 (.f 2 (.v 1) (.c 3) (.c 0)) (.f 2 (.v 2) (.c 3) (.c 0))))) (.b .pmul .i64 (.f 2 (.v 1) (.c 2) (.c 0)) (.f 2 (.v 2) (.c 2) (.c 0))))) (.b .pmul .i64 (.f 2 (.v 1) (.c 1) (.c 0)) (.f 2 (.v 2) (.c 1) (.c 0))))) (.b .pmul .i64 (.f 2 (.v 1) (.c 0) (.c 0)) (.f 2 (.v 2) (.c 0) (.c 0))))))
  (.br (.b .eq .i64 (.w .i64 (.f 13 (.v 3) (.c 4) (.c 0))) (.c 1))
  (.leaf [(.b .eq .i64 (.w .i64 (.b .padd .i64 (.w .i64 (.f 13 (.v 3) (.c 21) (.c 0))) (.c 3))) (.c 5))])
  (.leaf [(.c 0)]))
  (.leaf [(.c 0)]))
  (.br (.b .eq .i64 (.b .and .i32 (.v 1) (.v 2)) (.w .i32 (.b .padd .i64 (.b .pmul .i64 (.c 2) (.b .padd .i64 (.b .pmul .i64 (.c 2) (.b .padd .i64 (.b .pmul .i64 (.c 2) (.b .padd .i64 (.b .pmul .i64 (.c 2) (.b .padd .i64 (.b .pmul .i64 (.c 2) (.b .padd .i64 (.b .pmul .i64 (.c 2) (.b .padd .i64 (.b .pmul .i64 (.c 2) (.b .padd .i64 (.b .pmul .i64 (.c 2) (.b .padd .i64 (.b .pmul .i64 (.c 2) (.b .padd .i64 (.b .pmul .i64 (.c 2) (.b .padd .i64 (.b .pmul .i64 (.c 2) (.b .padd .i64 (.b .pmul .i64 (.c 2) (.b .padd .i64 (.b .pmul .i64 (.c 2) (.b .padd .i64 (.b .pmul .i64 (.c 2) (.b .padd .i64 (.b .pmul .i64 (.c 2) (.b .padd .i64 (.b .pmul .i64 (.c 2) (.b .padd .i64 (.b .pmul .i64 (.c 2) (.b .padd .i64 (.b .pmul .i64 (.c 2) (.b .padd .i64 (.b .pmul .i64 (.c 2) (.b .padd .i64 (.b .pmul .i64 (.c 2) (.b .padd .i64 (.b .pmul .i64 (.c 2) (.b .padd .i64 (.b .pmul .i64 (.c 2) (.b .padd .i64 (.b .pmul .i64 (.c 2) (.b .padd .i64 (.b .pmul .i64 (.c 2) (.b .padd .i64 (.b .pmul .i64 (.c 2) (.b .padd .i64 (.b .pmul .i64 (.c 2) (.b .padd .i64 (.b .pmul .i64 (.c 2) (.b .padd .i64 (.b .pmul .i64 (.c 2) (.b .padd .i64 (.b .pmul .i64 (.c 2) (.b .padd .i64 (.b .pmul .i64 (.c 2) (.b .padd .i64 (.b .pmul .i64 (.c 2) (.b .pmul .i64 (.f 2 (.v 1) (.c 31) (.c 0)) (.f 2 (.v 2) (.c 31) (.c 0)))) (.b .pmul .i64 (.f 2 (.v 1) (.c 30) (.c 0)) (.f 2 (.v 2) (.c 30) (.c 0))))) (.b .pmul .i64 (.f 2 (.v 1) (.c 29) (.c 0)) (.f 2 (.v 2) (.c 29) (.c 0))))) (.b .pmul .i64 (.f 2 (.v 1) (.c 28) (.c 0)) (.f 2 (.v 2) (.c 28) (.c 0))))) (.b .pmul .i64 (.f 2 (.v 1) (.c 27) (.c 0)) (.f 2 (.v 2) (.c 27) (.c 0))))) (.b .pmul .i64 (.f 2 (.v 1) (.c 26) (.c 0)) (.f 2 (.v 2) (.c 26) (.c 0))))) (.b .pmul .i64 (.f 2 (.v 1) (.c 25) (.c 0)) (.f 2 (.v 2) (.c 25) (.c 0))))) (.b .pmul .i64 (.f 2 (.v 1) (.c 24) (.c 0)) (.f 2 (.v 2) (.c 24) (.c 0))))) (.b .pmul .i64 (.f 2 (.v 1) (.c 23) (.c 0)) (.f 2 (.v 2) (.c 23) (.c 0))))) (.b .pmul .i64 (.f 2 (.v 1) (.c 22) (.c 0)) (.f 2 (.v 2) (.c 22) (.c 0))))) (.b .pmul .i64 (.f 2 (.v 1) (.c 21) (.c 0)) (.f 2 (.v 2) (.c 21) (.c 0))))) (.b .pmul .i64 (.f 2 (.v 1) (.c 20) (.c 0)) (.f 2 (.v 2) (.c 20) (.c 0))))) (.b .pmul .i64 (.f 2 (.v 1) (.c 19) (.c 0)) (.f 2 (.v 2) (.c 19) (.c 0))))) (.b .pmul .i64 (.f 2 (.v 1) (.c 18) (.c 0)) (.f 2 (.v 2) (.c 18) (.c 0))))) (.b .pmul .i64 (.f 2 (.v 1) (.c 17) (.c 0)) (.f 2 (.v 2) (.c 17) (.c 0))))) (.b .pmul .i64 (.f 2 (.v 1) (.c 16) (.c 0)) (.f 2 (.v 2) (.c 16) (.c 0))))) (.b .pmul .i64 (.f 2 (.v 1) (.c 15) (.c 0)) (.f 2 (.v 2) (.c 15) (.c 0))))) (.b .pmul .i64 (.f 2 (.v 1) (.c 14) (.c 0)) (.f 2 (.v 2) (.c 14) (.c 0))))) (.b .pmul .i64 (.f 2 (.v 1) (.c 13) (.c 0)) (.f 2 (.v 2) (.c 13) (.c 0))))) (.b .pmul .i64 (.f 2 (.v 1) (.c 12) (.c 0)) (.f 2 (.v 2) (.c 12) (.c 0))))) (.b .pmul .i64 (.f 2 (.v 1) (.c 11) (.c 0)) (.f 2 (.v 2) (.c 11) (.c 0))))) (.b .pmul .i64 (.f 2 (.v 1) (.c 10) (.c 0)) (.f 2 (.v 2) (.c 10) (.c 0))))) (.b .pmul .i64 (.f 2 (.v 1) (.c 9) (.c 0)) (.f 2 (.v 2) (.c 9) (.c 0))))) (.b .pmul .i64 (.f 2 (.v 1) (.c 8) (.c 0)) (.f 2 (.v 2) (.c 8) (.c 0))))) (.b .pmul .i64 (.f 2 (.v 1) (.c 7) (.c 0)) (.f 2 (.v 2) (.c 7) (.c 0))))) (.b .pmul .i64 (.f 2 (.v 1) (.c 6) (.c 0)) (.f 2 (.v 2) (.c 6) (.c 0))))) (.b .pmul .i64 (.f 2 (.v 1) (.c 5) (.c 0)) (.f 2 (.v 2) (.c 5) (.c 0))))) (.b .pmul .i64 (.f 2 (.v 1) (.c 4) (.c 0)) (.f 2 (.v 2) (.c 4) (.c 0))))) (.b .pmul .i64 (.f 2 (.v 1) (.c 3) (.c 0)) (.f 2 (.v 2) (.c 3) (.c 0))))) (.b .pmul .i64 (.f 2 (.v 1) (.c 2) (.c 0)) (.f 2 (.v 2) (.c 2) (.c 0))))) (.b .pmul .i64 (.f 2 (.v 1) (.c 1) (.c 0)) (.f 2 (.v 2) (.c 1) (.c 0))))) (.b .pmul .i64 (.f 2 (.v 1) (.c 0) (.c 0)) (.f 2 (.v 2) (.c 0) (.c 0))))))
  (.br (.b .eq .i64 (.w .i64 (.f 13 (.v 3) (.c 4) (.c 0))) (.c 1))
  (.leaf [(.b .eq .i64 (.w .i64 (.b .padd .i64 (.w .i64 (.f 13 (.v 3) (.c 21) (.c 0))) (.c 3))) (.c 5))])
  (.leaf [(.c 0)]))
  (.leaf [(.c 0)])))

def P (a0 a1 a2 a3 : Int) : Prop :=
 (((bool01 (a2 == 0)) ≠ 0 →
  (((bool01 ((band .i32 a1 a2) == (IntKind.wrap .i32 ((2 * ((2 * ((2 * ((2 * ((2 * ((2 * ((2 * ((2 * ((2 * ((2 * ((2 * ((2 * ((2 * ((2 * ((2 * ((2 * ((2 * ((2 * ((2 * ((2 * ((2 * ((2 * ((2 * ((2 * ((2 * ((2 * ((2 * ((2 * ((2 * ((2 * ((2 * ((bitZ a1 31) * (bitZ a2 31))) + ((bitZ a1 30) * (bitZ a2 30)))) + ((bitZ a1 29) * (bitZ a2 29)))) + ((bitZ a1 28) * (bitZ a2 28)))) + ((bitZ a1 27) * (bitZ a2 27)))) + ((bitZ a1 26) * (bitZ a2 26)))) + ((bitZ a1 25) * (bitZ a2 25)))) + ((bitZ a1 24) * (bitZ a2 24)))) + ((bitZ a1 23) * (bitZ a2 23)))) + ((bitZ a1 22) * (bitZ a2 22)))) + ((bitZ a1 21) * (bitZ a2 21)))) + ((bitZ a1 20) * (bitZ a2 20)))) + ((bitZ a1 19) * (bitZ a2 19)))) + ((bitZ a1 18) * (bitZ a2 18)))) + ((bitZ a1 17) * (bitZ a2 17)))) + ((bitZ a1 16) * (bitZ a2 16)))) + ((bitZ a1 15) * (bitZ a2 15)))) + ((bitZ a1 14) * (bitZ a2 14)))) + ((bitZ a1 13) * (bitZ a2 13)))) + ((bitZ a1 12) * (bitZ a2 12)))) + ((bitZ a1 11) * (bitZ a2 11)))) + ((bitZ a1 10) * (bitZ a2 10)))) + ((bitZ a1 9) * (bitZ a2 9)))) + ((bitZ a1 8) * (bitZ a2 8)))) + ((bitZ a1 7) * (bitZ a2 7)))) + ((bitZ a1 6) * (bitZ a2 6)))) + ((bitZ a1 5) * (bitZ a2 5)))) + ((bitZ a1 4) * (bitZ a2 4)))) + ((bitZ a1 3) * (bitZ a2 3)))) + ((bitZ a1 2) * (bitZ a2 2)))) + ((bitZ a1 1) * (bitZ a2 1)))) + ((bitZ a1 0) * (bitZ a2 0)))))) ≠ 0 →
   (((bool01 ((IntKind.wrap .i64 (rdZ a3 4)) == 1)) ≠ 0 →
    ((bool01 ((IntKind.wrap .i64 ((IntKind.wrap .i64 (rdZ a3 21)) + 3)) == 5)) : Int) ≠ 0) ∧ ((bool01 ((IntKind.wrap .i64 (rdZ a3 4)) == 1)) = 0 →
    (0 : Int) ≠ 0))) ∧ ((bool01 ((band .i32 a1 a2) == (IntKind.wrap .i32 ((2 * ((2 * ((2 * ((2 * ((2 * ((2 * ((2 * ((2 * ((2 * ((2 * ((2 * ((2 * ((2 * ((2 * ((2 * ((2 * ((2 * ((2 * ((2 * ((2 * ((2 * ((2 * ((2 * ((2 * ((2 * ((2 * ((2 * ((2 * ((2 * ((2 * ((2 * ((bitZ a1 31) * (bitZ a2 31))) + ((bitZ a1 30) * (bitZ a2 30)))) + ((bitZ a1 29) * (bitZ a2 29)))) + ((bitZ a1 28) * (bitZ a2 28)))) + ((bitZ a1 27) * (bitZ a2 27)))) + ((bitZ a1 26) * (bitZ a2 26)))) + ((bitZ a1 25) * (bitZ a2 25)))) + ((bitZ a1 24) * (bitZ a2 24)))) + ((bitZ a1 23) * (bitZ a2 23)))) + ((bitZ a1 22) * (bitZ a2 22)))) + ((bitZ a1 21) * (bitZ a2 21)))) + ((bitZ a1 20) * (bitZ a2 20)))) + ((bitZ a1 19) * (bitZ a2 19)))) + ((bitZ a1 18) * (bitZ a2 18)))) + ((bitZ a1 17) * (bitZ a2 17)))) + ((bitZ a1 16) * (bitZ a2 16)))) + ((bitZ a1 15) * (bitZ a2 15)))) + ((bitZ a1 14) * (bitZ a2 14)))) + ((bitZ a1 13) * (bitZ a2 13)))) + ((bitZ a1 12) * (bitZ a2 12)))) + ((bitZ a1 11) * (bitZ a2 11)))) + ((bitZ a1 10) * (bitZ a2 10)))) + ((bitZ a1 9) * (bitZ a2 9)))) + ((bitZ a1 8) * (bitZ a2 8)))) + ((bitZ a1 7) * (bitZ a2 7)))) + ((bitZ a1 6) * (bitZ a2 6)))) + ((bitZ a1 5) * (bitZ a2 5)))) + ((bitZ a1 4) * (bitZ a2 4)))) + ((bitZ a1 3) * (bitZ a2 3)))) + ((bitZ a1 2) * (bitZ a2 2)))) + ((bitZ a1 1) * (bitZ a2 1)))) + ((bitZ a1 0) * (bitZ a2 0)))))) = 0 →
   (0 : Int) ≠ 0))) ∧ ((bool01 (a2 == 0)) = 0 →
  (((bool01 ((band .i32 a1 a2) == (IntKind.wrap .i32 ((2 * ((2 * ((2 * ((2 * ((2 * ((2 * ((2 * ((2 * ((2 * ((2 * ((2 * ((2 * ((2 * ((2 * ((2 * ((2 * ((2 * ((2 * ((2 * ((2 * ((2 * ((2 * ((2 * ((2 * ((2 * ((2 * ((2 * ((2 * ((2 * ((2 * ((2 * ((bitZ a1 31) * (bitZ a2 31))) + ((bitZ a1 30) * (bitZ a2 30)))) + ((bitZ a1 29) * (bitZ a2 29)))) + ((bitZ a1 28) * (bitZ a2 28)))) + ((bitZ a1 27) * (bitZ a2 27)))) + ((bitZ a1 26) * (bitZ a2 26)))) + ((bitZ a1 25) * (bitZ a2 25)))) + ((bitZ a1 24) * (bitZ a2 24)))) + ((bitZ a1 23) * (bitZ a2 23)))) + ((bitZ a1 22) * (bitZ a2 22)))) + ((bitZ a1 21) * (bitZ a2 21)))) + ((bitZ a1 20) * (bitZ a2 20)))) + ((bitZ a1 19) * (bitZ a2 19)))) + ((bitZ a1 18) * (bitZ a2 18)))) + ((bitZ a1 17) * (bitZ a2 17)))) + ((bitZ a1 16) * (bitZ a2 16)))) + ((bitZ a1 15) * (bitZ a2 15)))) + ((bitZ a1 14) * (bitZ a2 14)))) + ((bitZ a1 13) * (bitZ a2 13)))) + ((bitZ a1 12) * (bitZ a2 12)))) + ((bitZ a1 11) * (bitZ a2 11)))) + ((bitZ a1 10) * (bitZ a2 10)))) + ((bitZ a1 9) * (bitZ a2 9)))) + ((bitZ a1 8) * (bitZ a2 8)))) + ((bitZ a1 7) * (bitZ a2 7)))) + ((bitZ a1 6) * (bitZ a2 6)))) + ((bitZ a1 5) * (bitZ a2 5)))) + ((bitZ a1 4) * (bitZ a2 4)))) + ((bitZ a1 3) * (bitZ a2 3)))) + ((bitZ a1 2) * (bitZ a2 2)))) + ((bitZ a1 1) * (bitZ a2 1)))) + ((bitZ a1 0) * (bitZ a2 0)))))) ≠ 0 →
   (((bool01 ((IntKind.wrap .i64 (rdZ a3 4)) == 1)) ≠ 0 →
    ((bool01 ((IntKind.wrap .i64 ((IntKind.wrap .i64 (rdZ a3 21)) + 3)) == 5)) : Int) ≠ 0) ∧ ((bool01 ((IntKind.wrap .i64 (rdZ a3 4)) == 1)) = 0 →
    (0 : Int) ≠ 0))) ∧ ((bool01 ((band .i32 a1 a2) == (IntKind.wrap .i32 ((2 * ((2 * ((2 * ((2 * ((2 * ((2 * ((2 * ((2 * ((2 * ((2 * ((2 * ((2 * ((2 * ((2 * ((2 * ((2 * ((2 * ((2 * ((2 * ((2 * ((2 * ((2 * ((2 * ((2 * ((2 * ((2 * ((2 * ((2 * ((2 * ((2 * ((2 * ((bitZ a1 31) * (bitZ a2 31))) + ((bitZ a1 30) * (bitZ a2 30)))) + ((bitZ a1 29) * (bitZ a2 29)))) + ((bitZ a1 28) * (bitZ a2 28)))) + ((bitZ a1 27) * (bitZ a2 27)))) + ((bitZ a1 26) * (bitZ a2 26)))) + ((bitZ a1 25) * (bitZ a2 25)))) + ((bitZ a1 24) * (bitZ a2 24)))) + ((bitZ a1 23) * (bitZ a2 23)))) + ((bitZ a1 22) * (bitZ a2 22)))) + ((bitZ a1 21) * (bitZ a2 21)))) + ((bitZ a1 20) * (bitZ a2 20)))) + ((bitZ a1 19) * (bitZ a2 19)))) + ((bitZ a1 18) * (bitZ a2 18)))) + ((bitZ a1 17) * (bitZ a2 17)))) + ((bitZ a1 16) * (bitZ a2 16)))) + ((bitZ a1 15) * (bitZ a2 15)))) + ((bitZ a1 14) * (bitZ a2 14)))) + ((bitZ a1 13) * (bitZ a2 13)))) + ((bitZ a1 12) * (bitZ a2 12)))) + ((bitZ a1 11) * (bitZ a2 11)))) + ((bitZ a1 10) * (bitZ a2 10)))) + ((bitZ a1 9) * (bitZ a2 9)))) + ((bitZ a1 8) * (bitZ a2 8)))) + ((bitZ a1 7) * (bitZ a2 7)))) + ((bitZ a1 6) * (bitZ a2 6)))) + ((bitZ a1 5) * (bitZ a2 5)))) + ((bitZ a1 4) * (bitZ a2 4)))) + ((bitZ a1 3) * (bitZ a2 3)))) + ((bitZ a1 2) * (bitZ a2 2)))) + ((bitZ a1 1) * (bitZ a2 1)))) + ((bitZ a1 0) * (bitZ a2 0)))))) = 0 →
   (0 : Int) ≠ 0))))

theorem plain (a0 a1 a2 a3 : Int) (ro : List RO) : TT.hdP (cxOf 2 [(5, 5), (-2147483648, 2147483647), (-2147483648, 2147483647)] [⟨[.int .i64], .v 3, .c 43, .c 43, some 0⟩]) isOne tree (envR [a0, a1, a2, a3] ro) = P a0 a1 a2 a3 := by kernel_rfl

theorem holds (a0 a1 a2 : Int) (l0 : 5 ≤ a0) (u0 : a0 ≤ 5) (l1 : -2147483648 ≤ a1) (u1 : a1 ≤ 2147483647) (l2 : -2147483648 ≤ a2) (u2 : a2 ≤ 2147483647) : P a0 a1 a2 (LZ tab0) := by
  have h5 : (IntKind.wrap .i64 ((IntKind.wrap .i64 (rdZ (LZ tab0) 21)) + 3)) = 5 := by rw [rdZ_LZ]; decide
  have r1 : IntKind.wrap .i64 (rdZ (LZ tab0) (4)) = 1 := by rw [rdZ_LZ]; decide
  have e := and_each a1 a2
  simp only [eachN] at e
  unfold P
  rw [e]
  simp [h5, r1, bool01]

theorem ran : TT.beq (projL pjB (runA [(5, 5), (-2147483648, 2147483647), (-2147483648, 2147483647)] 3 [.int .i64 (.c 5), .int .i32 (.v 1), .int .i32 (.v 2)] ⟨[], []⟩)) tree = true := by kernel_rfl
theorem fineT : (TT.fine (cxOf 2 [(5, 5), (-2147483648, 2147483647), (-2147483648, 2147483647)] [⟨[.int .i64], .v 3, .c 43, .c 43, some 0⟩]) 1000 [] tree && (cxOf 2 [(5, 5), (-2147483648, 2147483647), (-2147483648, 2147483647)] [⟨[.int .i64], .v 3, .c 43, .c 43, some 0⟩]).okB 1000 && SV.vbL 1000 [.int .i64 (.c 5), .int .i32 (.v 1), .int .i32 (.v 2)] && TT.tidy (cxOf 2 [(5, 5), (-2147483648, 2147483647), (-2147483648, 2147483647)] [⟨[.int .i64], .v 3, .c 43, .c 43, some 0⟩]) [] tree) = true := by kernel_rfl
theorem walk (a0 a1 a2 : Int) (w0 : (Lit.int .i64 a0).wf = true) (w1 : (Lit.int .i32 a1).wf = true) (w2 : (Lit.int .i32 a2).wf = true) (w : World) (t0 : Lib.TabIs Tryz.prog w "astrolabe/ops.costs" .i64 tab0) (hc : 5 ≤ a0 ∧ a0 ≤ 5) :
    Calls Tryz.prog 3 #[.int .i64 a0, .int .i32 a1, .int .i32 a2] w fun e w' => e = .returned (.bool true) ∧ Below w.heap.size w w' :=
  lawT_of (runA_ok [(5, 5), (-2147483648, 2147483647), (-2147483648, 2147483647)]) (ρ := envR [a0, a1, a2, LZ tab0] [tabRo 0 .i64 tab0]) (envR_ok (cx := cxOf 2 [(5, 5), (-2147483648, 2147483647), (-2147483648, 2147483647)] [⟨[.int .i64], .v 3, .c 43, .c 43, some 0⟩]) rfl rfl (bnd_cons hc (bnd_cons (wf_bd w1) (bnd_cons (wf_bd w2) (bnd_nil _)))) ⟨⟨rfl, rfl, rfl, rfl, (fun h => by cases h), fun g h => by cases h; rfl⟩, trivial⟩) (f := 3) (args := [.int .i64 (.c 5), .int .i32 (.v 1), .int .i32 (.v 2)]) (t := tree) ran fineT
    (by rw [plain]; exact holds a0 a1 a2 hc.1 hc.2 (wf_bd w1).1 (wf_bd w1).2 (wf_bd w2).1 (wf_bd w2).2) (roOk_of ⟨tabRo_at t0 tabG0 tabW0, trivial⟩) (by obtain rfl : a0 = 5 := (by omega); rfl)

end c5
end Go.Proofs.YtjooaieolphomaaGreatDoor.aluTells
