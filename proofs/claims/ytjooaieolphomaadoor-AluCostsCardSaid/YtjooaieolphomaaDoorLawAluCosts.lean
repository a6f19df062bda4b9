/-
  The law AluCosts answers true at every input: the law's function is run by the engine (a program's symbolic run, proved sound), and the tree of its answers, as a plain statement, is shown to hold. No condition but the table that the row lays, tied to the program's text by the card.
-/
import Derived.Test.YtjooaieolphomaaDoorRows
import Derived.Test.YtjooaieolphomaaDoorCards
import Derived.Test.YtjooaieolphomaaDoorTie
import Derived.Test.YtjooaieolphomaaDoorFen
import Derived.Test.YtjooaieolphomaaDoorFngTL
import Derived.Test.YtjooaieolphomaaDoorPmA
import Derived.WalkKit
import Derived.ProofKit
import Derived.OpenShut
import Derived.LaidMore
import Derived.Stop.Joined
import Derived.SevenTiedAt
namespace Go.Proofs.YtjooaieolphomaaDoor.aluCosts
open Go.ChangeShapes Go.WideShapes Go.ChangeAt Go.RowKit
open Go.Eng
set_option linter.unusedVariables false
set_option linter.unusedSimpArgs false

theorem own : ownKnob Tryd.prog.godebug = none := by kernel_rfl

set_option maxRecDepth 100000
def tab0 : List Int := [1, 1, 1, 1, 1, 1, 1, 1, 1, 1, 1, 1, 1, 1, 1, 1, 1, 3, 3, 3, 3, 2, 2, 1, 1, 1, 1, 1, 1, 1, 1, 1, 1, 2, 2, 1, 1, 1, 3, 3, 3, 1, 1]
theorem tabG0 : Tryd.prog.globalNamed "astrolabe/ops.costs" = some 0 := by kernel_rfl
theorem tabW0 : ∀ z ∈ tab0, IntKind.wrap .i64 z = z := fun z hz => by
  have h := List.all_eq_true.1 (show tab0.all (fun z => decide (IntKind.wrap .i64 z = z)) = true by kernel_rfl) z hz
  simpa using h

theorem n01 {x y : Int} : bool01 (x != y) ≠ 0 ↔ x ≠ y := by by_cases h : x = y <;> simp [bool01, h]
theorem n01e {x y : Int} : bool01 (x != y) = 0 ↔ x = y := by by_cases h : x = y <;> simp [bool01, h]
theorem q01 {p : Prop} [Decidable p] : bool01 (bool01 (decide p) == 0) ≠ 0 ↔ ¬ p := by by_cases h : p <;> simp [bool01, h]
theorem q01e {p : Prop} [Decidable p] : bool01 (bool01 (decide p) == 0) = 0 ↔ p := by by_cases h : p <;> simp [bool01, h]

def cost (x : Int) : Int := blen64 (IntKind.wrap .u64 (maxZ x (0 - x)))
theorem wu64 {x : Int} (h1 : 0 ≤ x) (h2 : x ≤ 18446744073709551615) : IntKind.wrap .u64 x = x := wrap_in _ _ (by simp [klo]; omega) (by simp [khi]; omega)
theorem cost_eq {x : Int} (h1 : -2147483648 ≤ x) (h2 : x ≤ 2147483647) : cost x = Lib.bitLen x.natAbs := by
  unfold cost
  have : maxZ x (0 - x) = (x.natAbs : Int) := by unfold maxZ; split <;> omega
  rw [this, wu64 (by omega) (by omega)]
  unfold blen64
  rw [Int.emod_eq_of_lt (by omega) (by omega), Int.toNat_natCast]
theorem cost_bd {x : Int} (h1 : -2147483648 ≤ x) (h2 : x ≤ 2147483647) : 0 ≤ cost x ∧ cost x ≤ 32 := by
  rw [cost_eq h1 h2]
  have := bitLen_le 32 x.natAbs (by omega) (by omega)
  omega
theorem cost_half {x : Int} (h1 : 0 < x) (h2 : x ≤ 2147483647) : cost (BO.ev .quo .i32 x 2) = cost x - 1 := by
  have e : BO.ev .quo .i32 x 2 = x / 2 := by
    simp only [BO.ev]
    rw [Int.tdiv_eq_ediv_of_nonneg (by omega)]
    exact wrap_in _ _ (by simp [klo]; omega) (by simp [khi]; omega)
  rw [e, cost_eq (by omega) (by omega), cost_eq (by omega) (by omega), Lib.bitLen_half x.natAbs (by omega) (by omega)]
  have : (x / 2).natAbs = x.natAbs / 2 := by omega
  rw [this]; omega
theorem w64 {x : Int} (h1 : -9223372036854775808 ≤ x) (h2 : x ≤ 9223372036854775807) : IntKind.wrap .i64 x = x := wrap_in _ _ (by simp [klo]; omega) (by simp [khi]; omega)


namespace c0
def tree : TT (List E) :=
(.leaf [(.b .eq .i64 (.w .i64 (.b .padd .i64 (.w .i64 (.f 13 (.v 3) (.c 21) (.c 0))) (.c 3))) (.c 5))])

def P (a0 a1 a2 a3 : Int) : Prop :=
 ((bool01 ((IntKind.wrap .i64 ((IntKind.wrap .i64 (rdZ a3 21)) + 3)) == 5)) : Int) ≠ 0

theorem plain (a0 a1 a2 a3 : Int) (ro : List RO) : TT.hdP (cxOf 2 [(-9223372036854775808, 0), (-2147483648, 2147483647), (-2147483648, 2147483647)] [⟨[.int .i64], .v 3, .c 43, .c 43, some 0⟩]) isOne tree (envR [a0, a1, a2, a3] ro) = P a0 a1 a2 a3 := by kernel_rfl

theorem holds (a0 a1 a2 : Int) (l0 : -9223372036854775808 ≤ a0) (u0 : a0 ≤ 0) (l1 : -2147483648 ≤ a1) (u1 : a1 ≤ 2147483647) (l2 : -2147483648 ≤ a2) (u2 : a2 ≤ 2147483647) : P a0 a1 a2 (LZ tab0) := by
  have h5 : (IntKind.wrap .i64 ((IntKind.wrap .i64 (rdZ (LZ tab0) 21)) + 3)) = 5 := by rw [rdZ_LZ]; decide
  have r1 : IntKind.wrap .i64 (rdZ (LZ tab0) 21) = 2 := by rw [rdZ_LZ]; decide
  have r2 : IntKind.wrap .i64 (rdZ (LZ tab0) 22) = 2 := by rw [rdZ_LZ]; decide
  have c1 := cost_bd l1 u1
  have hh := fun h : ¬ a1 ≤ 0 => cost_half (x := a1) (by omega) u1
  have ew : IntKind.wrap .i64 (2 + cost a1) = 2 + cost a1 := w64 (by omega) (by omega)
  unfold P
  rw [h5]
  first
    | (exact (by decide : bool01 ((5 : Int) == 5) ≠ 0))
    | skip
  all_goals first
    | (simp only [show ∀ x, blen64 (IntKind.wrap .u64 (maxZ x (0 - x))) = cost x from fun _ => rfl]
       by_cases h1 : a1 ≤ 0
       · simp [h1, r1, r2, ew, c1, bool01]; omega
       · have := hh h1
         have ew2 : IntKind.wrap .i64 (2 + cost (BO.ev .quo .i32 a1 2)) = 2 + cost a1 - 1 := by rw [this, w64 (by omega) (by omega)]; omega
         have ew3 : IntKind.wrap .i64 (2 + cost a1 - 1) = 2 + cost a1 - 1 := w64 (by omega) (by omega)
         simp [h1, r1, r2, ew, ew2, ew3, c1, bool01]; omega)

theorem ran : TT.beq (projL pjB (runT smB (fun _ _ => .auto) 2 [(-9223372036854775808, 0), (-2147483648, 2147483647), (-2147483648, 2147483647)] [⟨[.int .i64], .v 3, .c 43, .c 43, some 0⟩] 6 [.int .i64 (.v 0), .int .i32 (.v 1), .int .i32 (.v 2)] ⟨[], []⟩)) tree = true := by kernel_rfl
theorem fineT : (TT.fine (cxOf 2 [(-9223372036854775808, 0), (-2147483648, 2147483647), (-2147483648, 2147483647)] [⟨[.int .i64], .v 3, .c 43, .c 43, some 0⟩]) 1000 [] tree && (cxOf 2 [(-9223372036854775808, 0), (-2147483648, 2147483647), (-2147483648, 2147483647)] [⟨[.int .i64], .v 3, .c 43, .c 43, some 0⟩]).okB 1000 && SV.vbL 1000 [.int .i64 (.v 0), .int .i32 (.v 1), .int .i32 (.v 2)] && TT.tidy (cxOf 2 [(-9223372036854775808, 0), (-2147483648, 2147483647), (-2147483648, 2147483647)] [⟨[.int .i64], .v 3, .c 43, .c 43, some 0⟩]) [] tree) = true := by kernel_rfl
theorem walk (a0 a1 a2 : Int) (w0 : (Lit.int .i64 a0).wf = true) (w1 : (Lit.int .i32 a1).wf = true) (w2 : (Lit.int .i32 a2).wf = true) (w : World) (t0 : Lib.TabIs Tryd.prog w "astrolabe/ops.costs" .i64 tab0) (hc : -9223372036854775808 ≤ a0 ∧ a0 ≤ 0) :
    Calls Tryd.prog 6 #[.int .i64 a0, .int .i32 a1, .int .i32 a2] w fun e w' => e = .returned (.bool true) ∧ Below w.heap.size w w' :=
  lawT_of (runT_ok smB_ok (fun _ _ => .auto) 2 [(-9223372036854775808, 0), (-2147483648, 2147483647), (-2147483648, 2147483647)] [⟨[.int .i64], .v 3, .c 43, .c 43, some 0⟩]) (ρ := envR [a0, a1, a2, LZ tab0] [tabRo 0 .i64 tab0]) (envR_ok (cx := cxOf 2 [(-9223372036854775808, 0), (-2147483648, 2147483647), (-2147483648, 2147483647)] [⟨[.int .i64], .v 3, .c 43, .c 43, some 0⟩]) rfl rfl (bnd_cons hc (bnd_cons (wf_bd w1) (bnd_cons (wf_bd w2) (bnd_nil _)))) ⟨⟨rfl, rfl, rfl, rfl, (fun h => by cases h), fun g h => by cases h; rfl⟩, trivial⟩) (f := 6) (args := [.int .i64 (.v 0), .int .i32 (.v 1), .int .i32 (.v 2)]) (t := tree) ran fineT
    (by rw [plain]; exact holds a0 a1 a2 hc.1 hc.2 (wf_bd w1).1 (wf_bd w1).2 (wf_bd w2).1 (wf_bd w2).2) (roOk_of ⟨tabRo_at t0 tabG0 tabW0, trivial⟩) rfl

end c0

namespace c1
def tree : TT (List E) :=
(.leaf [(.b .eq .i64 (.w .i64 (.b .padd .i64 (.w .i64 (.f 13 (.v 3) (.c 21) (.c 0))) (.c 3))) (.c 5))])

def P (a0 a1 a2 a3 : Int) : Prop :=
 ((bool01 ((IntKind.wrap .i64 ((IntKind.wrap .i64 (rdZ a3 21)) + 3)) == 5)) : Int) ≠ 0

theorem plain (a0 a1 a2 a3 : Int) (ro : List RO) : TT.hdP (cxOf 2 [(1, 21), (-2147483648, 2147483647), (-2147483648, 2147483647)] [⟨[.int .i64], .v 3, .c 43, .c 43, some 0⟩]) isOne tree (envR [a0, a1, a2, a3] ro) = P a0 a1 a2 a3 := by kernel_rfl

theorem holds (a0 a1 a2 : Int) (l0 : 1 ≤ a0) (u0 : a0 ≤ 21) (l1 : -2147483648 ≤ a1) (u1 : a1 ≤ 2147483647) (l2 : -2147483648 ≤ a2) (u2 : a2 ≤ 2147483647) : P a0 a1 a2 (LZ tab0) := by
  have h5 : (IntKind.wrap .i64 ((IntKind.wrap .i64 (rdZ (LZ tab0) 21)) + 3)) = 5 := by rw [rdZ_LZ]; decide
  have r1 : IntKind.wrap .i64 (rdZ (LZ tab0) 21) = 2 := by rw [rdZ_LZ]; decide
  have r2 : IntKind.wrap .i64 (rdZ (LZ tab0) 22) = 2 := by rw [rdZ_LZ]; decide
  have c1 := cost_bd l1 u1
  have hh := fun h : ¬ a1 ≤ 0 => cost_half (x := a1) (by omega) u1
  have ew : IntKind.wrap .i64 (2 + cost a1) = 2 + cost a1 := w64 (by omega) (by omega)
  unfold P
  rw [h5]
  first
    | (exact (by decide : bool01 ((5 : Int) == 5) ≠ 0))
    | skip
  all_goals first
    | (simp only [show ∀ x, blen64 (IntKind.wrap .u64 (maxZ x (0 - x))) = cost x from fun _ => rfl]
       by_cases h1 : a1 ≤ 0
       · simp [h1, r1, r2, ew, c1, bool01]; omega
       · have := hh h1
         have ew2 : IntKind.wrap .i64 (2 + cost (BO.ev .quo .i32 a1 2)) = 2 + cost a1 - 1 := by rw [this, w64 (by omega) (by omega)]; omega
         have ew3 : IntKind.wrap .i64 (2 + cost a1 - 1) = 2 + cost a1 - 1 := w64 (by omega) (by omega)
         simp [h1, r1, r2, ew, ew2, ew3, c1, bool01]; omega)

theorem ran : TT.beq (projL pjB (runT smB (fun _ _ => .auto) 2 [(1, 21), (-2147483648, 2147483647), (-2147483648, 2147483647)] [⟨[.int .i64], .v 3, .c 43, .c 43, some 0⟩] 6 [.int .i64 (.v 0), .int .i32 (.v 1), .int .i32 (.v 2)] ⟨[], []⟩)) tree = true := by kernel_rfl
theorem fineT : (TT.fine (cxOf 2 [(1, 21), (-2147483648, 2147483647), (-2147483648, 2147483647)] [⟨[.int .i64], .v 3, .c 43, .c 43, some 0⟩]) 1000 [] tree && (cxOf 2 [(1, 21), (-2147483648, 2147483647), (-2147483648, 2147483647)] [⟨[.int .i64], .v 3, .c 43, .c 43, some 0⟩]).okB 1000 && SV.vbL 1000 [.int .i64 (.v 0), .int .i32 (.v 1), .int .i32 (.v 2)] && TT.tidy (cxOf 2 [(1, 21), (-2147483648, 2147483647), (-2147483648, 2147483647)] [⟨[.int .i64], .v 3, .c 43, .c 43, some 0⟩]) [] tree) = true := by kernel_rfl
theorem walk (a0 a1 a2 : Int) (w0 : (Lit.int .i64 a0).wf = true) (w1 : (Lit.int .i32 a1).wf = true) (w2 : (Lit.int .i32 a2).wf = true) (w : World) (t0 : Lib.TabIs Tryd.prog w "astrolabe/ops.costs" .i64 tab0) (hc : 1 ≤ a0 ∧ a0 ≤ 21) :
    Calls Tryd.prog 6 #[.int .i64 a0, .int .i32 a1, .int .i32 a2] w fun e w' => e = .returned (.bool true) ∧ Below w.heap.size w w' :=
  lawT_of (runT_ok smB_ok (fun _ _ => .auto) 2 [(1, 21), (-2147483648, 2147483647), (-2147483648, 2147483647)] [⟨[.int .i64], .v 3, .c 43, .c 43, some 0⟩]) (ρ := envR [a0, a1, a2, LZ tab0] [tabRo 0 .i64 tab0]) (envR_ok (cx := cxOf 2 [(1, 21), (-2147483648, 2147483647), (-2147483648, 2147483647)] [⟨[.int .i64], .v 3, .c 43, .c 43, some 0⟩]) rfl rfl (bnd_cons hc (bnd_cons (wf_bd w1) (bnd_cons (wf_bd w2) (bnd_nil _)))) ⟨⟨rfl, rfl, rfl, rfl, (fun h => by cases h), fun g h => by cases h; rfl⟩, trivial⟩) (f := 6) (args := [.int .i64 (.v 0), .int .i32 (.v 1), .int .i32 (.v 2)]) (t := tree) ran fineT
    (by rw [plain]; exact holds a0 a1 a2 hc.1 hc.2 (wf_bd w1).1 (wf_bd w1).2 (wf_bd w2).1 (wf_bd w2).2) (roOk_of ⟨tabRo_at t0 tabG0 tabW0, trivial⟩) rfl

end c1

namespace c2
def tree : TT (List E) :=
(.br (.b .le .i64 (.c 2) (.w .i64 (.b .padd .i64 (.w .i64 (.f 13 (.v 3) (.c 21) (.c 0))) (.f 3 (.w .u64 (.b .max .i64 (.v 1) (.b .psub .i64 (.c 0) (.v 1)))) (.c 0) (.c 0)))))
  (.br (.b .le .i64 (.w .i64 (.b .padd .i64 (.w .i64 (.f 13 (.v 3) (.c 21) (.c 0))) (.f 3 (.w .u64 (.b .max .i64 (.v 1) (.b .psub .i64 (.c 0) (.v 1)))) (.c 0) (.c 0)))) (.c 34))
  (.br (.b .le .i64 (.v 1) (.c 0))
  (.br (.b .eq .i64 (.w .i64 (.f 13 (.v 3) (.c 21) (.c 0))) (.c 2))
  (.leaf [(.b .eq .i64 (.w .i64 (.b .padd .i64 (.w .i64 (.f 13 (.v 3) (.c 21) (.c 0))) (.c 3))) (.c 5))])
  (.leaf [(.c 0)]))
  (.br (.b .eq .i64 (.w .i64 (.b .padd .i64 (.w .i64 (.f 13 (.v 3) (.c 21) (.c 0))) (.f 3 (.w .u64 (.b .max .i64 (.b .quo .i32 (.v 1) (.c 2)) (.b .psub .i64 (.c 0) (.b .quo .i32 (.v 1) (.c 2))))) (.c 0) (.c 0)))) (.w .i64 (.b .psub .i64 (.w .i64 (.b .padd .i64 (.w .i64 (.f 13 (.v 3) (.c 21) (.c 0))) (.f 3 (.w .u64 (.b .max .i64 (.v 1) (.b .psub .i64 (.c 0) (.v 1)))) (.c 0) (.c 0)))) (.c 1))))
  (.br (.b .eq .i64 (.w .i64 (.f 13 (.v 3) (.c 21) (.c 0))) (.c 2))
  (.leaf [(.b .eq .i64 (.w .i64 (.b .padd .i64 (.w .i64 (.f 13 (.v 3) (.c 21) (.c 0))) (.c 3))) (.c 5))])
  (.leaf [(.c 0)]))
  (.leaf [(.c 0)])))
  (.leaf [(.c 0)]))
  (.leaf [(.c 0)]))

def P (a0 a1 a2 a3 : Int) : Prop :=
 (((bool01 (decide (2 ≤ (IntKind.wrap .i64 ((IntKind.wrap .i64 (rdZ a3 21)) + (blen64 (IntKind.wrap .u64 (maxZ a1 (0 - a1))))))))) ≠ 0 →
  (((bool01 (decide ((IntKind.wrap .i64 ((IntKind.wrap .i64 (rdZ a3 21)) + (blen64 (IntKind.wrap .u64 (maxZ a1 (0 - a1)))))) ≤ 34))) ≠ 0 →
   (((bool01 (decide (a1 ≤ 0))) ≠ 0 →
    (((bool01 ((IntKind.wrap .i64 (rdZ a3 21)) == 2)) ≠ 0 →
     ((bool01 ((IntKind.wrap .i64 ((IntKind.wrap .i64 (rdZ a3 21)) + 3)) == 5)) : Int) ≠ 0) ∧ ((bool01 ((IntKind.wrap .i64 (rdZ a3 21)) == 2)) = 0 →
     (0 : Int) ≠ 0))) ∧ ((bool01 (decide (a1 ≤ 0))) = 0 →
    (((bool01 ((IntKind.wrap .i64 ((IntKind.wrap .i64 (rdZ a3 21)) + (blen64 (IntKind.wrap .u64 (maxZ (BO.ev .quo .i32 a1 2) (0 - (BO.ev .quo .i32 a1 2))))))) == (IntKind.wrap .i64 ((IntKind.wrap .i64 ((IntKind.wrap .i64 (rdZ a3 21)) + (blen64 (IntKind.wrap .u64 (maxZ a1 (0 - a1)))))) - 1)))) ≠ 0 →
     (((bool01 ((IntKind.wrap .i64 (rdZ a3 21)) == 2)) ≠ 0 →
      ((bool01 ((IntKind.wrap .i64 ((IntKind.wrap .i64 (rdZ a3 21)) + 3)) == 5)) : Int) ≠ 0) ∧ ((bool01 ((IntKind.wrap .i64 (rdZ a3 21)) == 2)) = 0 →
      (0 : Int) ≠ 0))) ∧ ((bool01 ((IntKind.wrap .i64 ((IntKind.wrap .i64 (rdZ a3 21)) + (blen64 (IntKind.wrap .u64 (maxZ (BO.ev .quo .i32 a1 2) (0 - (BO.ev .quo .i32 a1 2))))))) == (IntKind.wrap .i64 ((IntKind.wrap .i64 ((IntKind.wrap .i64 (rdZ a3 21)) + (blen64 (IntKind.wrap .u64 (maxZ a1 (0 - a1)))))) - 1)))) = 0 →
     (0 : Int) ≠ 0))))) ∧ ((bool01 (decide ((IntKind.wrap .i64 ((IntKind.wrap .i64 (rdZ a3 21)) + (blen64 (IntKind.wrap .u64 (maxZ a1 (0 - a1)))))) ≤ 34))) = 0 →
   (0 : Int) ≠ 0))) ∧ ((bool01 (decide (2 ≤ (IntKind.wrap .i64 ((IntKind.wrap .i64 (rdZ a3 21)) + (blen64 (IntKind.wrap .u64 (maxZ a1 (0 - a1))))))))) = 0 →
  (0 : Int) ≠ 0))

theorem plain (a0 a1 a2 a3 : Int) (ro : List RO) : TT.hdP (cxOf 2 [(22, 22), (-2147483648, 2147483647), (-2147483648, 2147483647)] [⟨[.int .i64], .v 3, .c 43, .c 43, some 0⟩]) isOne tree (envR [a0, a1, a2, a3] ro) = P a0 a1 a2 a3 := by kernel_rfl

theorem holds (a0 a1 a2 : Int) (l0 : 22 ≤ a0) (u0 : a0 ≤ 22) (l1 : -2147483648 ≤ a1) (u1 : a1 ≤ 2147483647) (l2 : -2147483648 ≤ a2) (u2 : a2 ≤ 2147483647) : P a0 a1 a2 (LZ tab0) := by
  have h5 : (IntKind.wrap .i64 ((IntKind.wrap .i64 (rdZ (LZ tab0) 21)) + 3)) = 5 := by rw [rdZ_LZ]; decide
  have r1 : IntKind.wrap .i64 (rdZ (LZ tab0) 21) = 2 := by rw [rdZ_LZ]; decide
  have r2 : IntKind.wrap .i64 (rdZ (LZ tab0) 22) = 2 := by rw [rdZ_LZ]; decide
  have c1 := cost_bd l1 u1
  have hh := fun h : ¬ a1 ≤ 0 => cost_half (x := a1) (by omega) u1
  have ew : IntKind.wrap .i64 (2 + cost a1) = 2 + cost a1 := w64 (by omega) (by omega)
  unfold P
  rw [h5]
  first
    | (exact (by decide : bool01 ((5 : Int) == 5) ≠ 0))
    | skip
  all_goals first
    | (simp only [show ∀ x, blen64 (IntKind.wrap .u64 (maxZ x (0 - x))) = cost x from fun _ => rfl]
       by_cases h1 : a1 ≤ 0
       · simp [h1, r1, r2, ew, c1, bool01]; omega
       · have := hh h1
         have ew2 : IntKind.wrap .i64 (2 + cost (BO.ev .quo .i32 a1 2)) = 2 + cost a1 - 1 := by rw [this, w64 (by omega) (by omega)]; omega
         have ew3 : IntKind.wrap .i64 (2 + cost a1 - 1) = 2 + cost a1 - 1 := w64 (by omega) (by omega)
         simp [h1, r1, r2, ew, ew2, ew3, c1, bool01]; omega)

theorem ran : TT.beq (projL pjB (runT smB (fun _ _ => .auto) 2 [(22, 22), (-2147483648, 2147483647), (-2147483648, 2147483647)] [⟨[.int .i64], .v 3, .c 43, .c 43, some 0⟩] 6 [.int .i64 (.c 22), .int .i32 (.v 1), .int .i32 (.v 2)] ⟨[], []⟩)) tree = true := by kernel_rfl
theorem fineT : (TT.fine (cxOf 2 [(22, 22), (-2147483648, 2147483647), (-2147483648, 2147483647)] [⟨[.int .i64], .v 3, .c 43, .c 43, some 0⟩]) 1000 [] tree && (cxOf 2 [(22, 22), (-2147483648, 2147483647), (-2147483648, 2147483647)] [⟨[.int .i64], .v 3, .c 43, .c 43, some 0⟩]).okB 1000 && SV.vbL 1000 [.int .i64 (.c 22), .int .i32 (.v 1), .int .i32 (.v 2)] && TT.tidy (cxOf 2 [(22, 22), (-2147483648, 2147483647), (-2147483648, 2147483647)] [⟨[.int .i64], .v 3, .c 43, .c 43, some 0⟩]) [] tree) = true := by kernel_rfl
theorem walk (a0 a1 a2 : Int) (w0 : (Lit.int .i64 a0).wf = true) (w1 : (Lit.int .i32 a1).wf = true) (w2 : (Lit.int .i32 a2).wf = true) (w : World) (t0 : Lib.TabIs Tryd.prog w "astrolabe/ops.costs" .i64 tab0) (hc : 22 ≤ a0 ∧ a0 ≤ 22) :
    Calls Tryd.prog 6 #[.int .i64 a0, .int .i32 a1, .int .i32 a2] w fun e w' => e = .returned (.bool true) ∧ Below w.heap.size w w' :=
  lawT_of (runT_ok smB_ok (fun _ _ => .auto) 2 [(22, 22), (-2147483648, 2147483647), (-2147483648, 2147483647)] [⟨[.int .i64], .v 3, .c 43, .c 43, some 0⟩]) (ρ := envR [a0, a1, a2, LZ tab0] [tabRo 0 .i64 tab0]) (envR_ok (cx := cxOf 2 [(22, 22), (-2147483648, 2147483647), (-2147483648, 2147483647)] [⟨[.int .i64], .v 3, .c 43, .c 43, some 0⟩]) rfl rfl (bnd_cons hc (bnd_cons (wf_bd w1) (bnd_cons (wf_bd w2) (bnd_nil _)))) ⟨⟨rfl, rfl, rfl, rfl, (fun h => by cases h), fun g h => by cases h; rfl⟩, trivial⟩) (f := 6) (args := [.int .i64 (.c 22), .int .i32 (.v 1), .int .i32 (.v 2)]) (t := tree) ran fineT
    (by rw [plain]; exact holds a0 a1 a2 hc.1 hc.2 (wf_bd w1).1 (wf_bd w1).2 (wf_bd w2).1 (wf_bd w2).2) (roOk_of ⟨tabRo_at t0 tabG0 tabW0, trivial⟩) (by obtain rfl : a0 = 22 := (by omega); rfl)

end c2

namespace c3
def tree : TT (List E) :=
(.br (.b .le .i64 (.c 2) (.w .i64 (.b .padd .i64 (.w .i64 (.f 13 (.v 3) (.c 22) (.c 0))) (.f 3 (.w .u64 (.b .max .i64 (.v 1) (.b .psub .i64 (.c 0) (.v 1)))) (.c 0) (.c 0)))))
  (.br (.b .le .i64 (.w .i64 (.b .padd .i64 (.w .i64 (.f 13 (.v 3) (.c 22) (.c 0))) (.f 3 (.w .u64 (.b .max .i64 (.v 1) (.b .psub .i64 (.c 0) (.v 1)))) (.c 0) (.c 0)))) (.c 34))
  (.br (.b .le .i64 (.v 1) (.c 0))
  (.br (.b .eq .i64 (.w .i64 (.f 13 (.v 3) (.c 22) (.c 0))) (.c 2))
  (.leaf [(.b .eq .i64 (.w .i64 (.b .padd .i64 (.w .i64 (.f 13 (.v 3) (.c 21) (.c 0))) (.c 3))) (.c 5))])
  (.leaf [(.c 0)]))
  (.br (.b .eq .i64 (.w .i64 (.b .padd .i64 (.w .i64 (.f 13 (.v 3) (.c 22) (.c 0))) (.f 3 (.w .u64 (.b .max .i64 (.b .quo .i32 (.v 1) (.c 2)) (.b .psub .i64 (.c 0) (.b .quo .i32 (.v 1) (.c 2))))) (.c 0) (.c 0)))) (.w .i64 (.b .psub .i64 (.w .i64 (.b .padd .i64 (.w .i64 (.f 13 (.v 3) (.c 22) (.c 0))) (.f 3 (.w .u64 (.b .max .i64 (.v 1) (.b .psub .i64 (.c 0) (.v 1)))) (.c 0) (.c 0)))) (.c 1))))
  (.br (.b .eq .i64 (.w .i64 (.f 13 (.v 3) (.c 22) (.c 0))) (.c 2))
  (.leaf [(.b .eq .i64 (.w .i64 (.b .padd .i64 (.w .i64 (.f 13 (.v 3) (.c 21) (.c 0))) (.c 3))) (.c 5))])
  (.leaf [(.c 0)]))
  (.leaf [(.c 0)])))
  (.leaf [(.c 0)]))
  (.leaf [(.c 0)]))

def P (a0 a1 a2 a3 : Int) : Prop :=
 (((bool01 (decide (2 ≤ (IntKind.wrap .i64 ((IntKind.wrap .i64 (rdZ a3 22)) + (blen64 (IntKind.wrap .u64 (maxZ a1 (0 - a1))))))))) ≠ 0 →
  (((bool01 (decide ((IntKind.wrap .i64 ((IntKind.wrap .i64 (rdZ a3 22)) + (blen64 (IntKind.wrap .u64 (maxZ a1 (0 - a1)))))) ≤ 34))) ≠ 0 →
   (((bool01 (decide (a1 ≤ 0))) ≠ 0 →
    (((bool01 ((IntKind.wrap .i64 (rdZ a3 22)) == 2)) ≠ 0 →
     ((bool01 ((IntKind.wrap .i64 ((IntKind.wrap .i64 (rdZ a3 21)) + 3)) == 5)) : Int) ≠ 0) ∧ ((bool01 ((IntKind.wrap .i64 (rdZ a3 22)) == 2)) = 0 →
     (0 : Int) ≠ 0))) ∧ ((bool01 (decide (a1 ≤ 0))) = 0 →
    (((bool01 ((IntKind.wrap .i64 ((IntKind.wrap .i64 (rdZ a3 22)) + (blen64 (IntKind.wrap .u64 (maxZ (BO.ev .quo .i32 a1 2) (0 - (BO.ev .quo .i32 a1 2))))))) == (IntKind.wrap .i64 ((IntKind.wrap .i64 ((IntKind.wrap .i64 (rdZ a3 22)) + (blen64 (IntKind.wrap .u64 (maxZ a1 (0 - a1)))))) - 1)))) ≠ 0 →
     (((bool01 ((IntKind.wrap .i64 (rdZ a3 22)) == 2)) ≠ 0 →
      ((bool01 ((IntKind.wrap .i64 ((IntKind.wrap .i64 (rdZ a3 21)) + 3)) == 5)) : Int) ≠ 0) ∧ ((bool01 ((IntKind.wrap .i64 (rdZ a3 22)) == 2)) = 0 →
      (0 : Int) ≠ 0))) ∧ ((bool01 ((IntKind.wrap .i64 ((IntKind.wrap .i64 (rdZ a3 22)) + (blen64 (IntKind.wrap .u64 (maxZ (BO.ev .quo .i32 a1 2) (0 - (BO.ev .quo .i32 a1 2))))))) == (IntKind.wrap .i64 ((IntKind.wrap .i64 ((IntKind.wrap .i64 (rdZ a3 22)) + (blen64 (IntKind.wrap .u64 (maxZ a1 (0 - a1)))))) - 1)))) = 0 →
     (0 : Int) ≠ 0))))) ∧ ((bool01 (decide ((IntKind.wrap .i64 ((IntKind.wrap .i64 (rdZ a3 22)) + (blen64 (IntKind.wrap .u64 (maxZ a1 (0 - a1)))))) ≤ 34))) = 0 →
   (0 : Int) ≠ 0))) ∧ ((bool01 (decide (2 ≤ (IntKind.wrap .i64 ((IntKind.wrap .i64 (rdZ a3 22)) + (blen64 (IntKind.wrap .u64 (maxZ a1 (0 - a1))))))))) = 0 →
  (0 : Int) ≠ 0))

theorem plain (a0 a1 a2 a3 : Int) (ro : List RO) : TT.hdP (cxOf 2 [(23, 23), (-2147483648, 2147483647), (-2147483648, 2147483647)] [⟨[.int .i64], .v 3, .c 43, .c 43, some 0⟩]) isOne tree (envR [a0, a1, a2, a3] ro) = P a0 a1 a2 a3 := by kernel_rfl

theorem holds (a0 a1 a2 : Int) (l0 : 23 ≤ a0) (u0 : a0 ≤ 23) (l1 : -2147483648 ≤ a1) (u1 : a1 ≤ 2147483647) (l2 : -2147483648 ≤ a2) (u2 : a2 ≤ 2147483647) : P a0 a1 a2 (LZ tab0) := by
  have h5 : (IntKind.wrap .i64 ((IntKind.wrap .i64 (rdZ (LZ tab0) 21)) + 3)) = 5 := by rw [rdZ_LZ]; decide
  have r1 : IntKind.wrap .i64 (rdZ (LZ tab0) 21) = 2 := by rw [rdZ_LZ]; decide
  have r2 : IntKind.wrap .i64 (rdZ (LZ tab0) 22) = 2 := by rw [rdZ_LZ]; decide
  have c1 := cost_bd l1 u1
  have hh := fun h : ¬ a1 ≤ 0 => cost_half (x := a1) (by omega) u1
  have ew : IntKind.wrap .i64 (2 + cost a1) = 2 + cost a1 := w64 (by omega) (by omega)
  unfold P
  rw [h5]
  first
    | (exact (by decide : bool01 ((5 : Int) == 5) ≠ 0))
    | skip
  all_goals first
    | (simp only [show ∀ x, blen64 (IntKind.wrap .u64 (maxZ x (0 - x))) = cost x from fun _ => rfl]
       by_cases h1 : a1 ≤ 0
       · simp [h1, r1, r2, ew, c1, bool01]; omega
       · have := hh h1
         have ew2 : IntKind.wrap .i64 (2 + cost (BO.ev .quo .i32 a1 2)) = 2 + cost a1 - 1 := by rw [this, w64 (by omega) (by omega)]; omega
         have ew3 : IntKind.wrap .i64 (2 + cost a1 - 1) = 2 + cost a1 - 1 := w64 (by omega) (by omega)
         simp [h1, r1, r2, ew, ew2, ew3, c1, bool01]; omega)

theorem ran : TT.beq (projL pjB (runT smB (fun _ _ => .auto) 2 [(23, 23), (-2147483648, 2147483647), (-2147483648, 2147483647)] [⟨[.int .i64], .v 3, .c 43, .c 43, some 0⟩] 6 [.int .i64 (.c 23), .int .i32 (.v 1), .int .i32 (.v 2)] ⟨[], []⟩)) tree = true := by kernel_rfl
theorem fineT : (TT.fine (cxOf 2 [(23, 23), (-2147483648, 2147483647), (-2147483648, 2147483647)] [⟨[.int .i64], .v 3, .c 43, .c 43, some 0⟩]) 1000 [] tree && (cxOf 2 [(23, 23), (-2147483648, 2147483647), (-2147483648, 2147483647)] [⟨[.int .i64], .v 3, .c 43, .c 43, some 0⟩]).okB 1000 && SV.vbL 1000 [.int .i64 (.c 23), .int .i32 (.v 1), .int .i32 (.v 2)] && TT.tidy (cxOf 2 [(23, 23), (-2147483648, 2147483647), (-2147483648, 2147483647)] [⟨[.int .i64], .v 3, .c 43, .c 43, some 0⟩]) [] tree) = true := by kernel_rfl
theorem walk (a0 a1 a2 : Int) (w0 : (Lit.int .i64 a0).wf = true) (w1 : (Lit.int .i32 a1).wf = true) (w2 : (Lit.int .i32 a2).wf = true) (w : World) (t0 : Lib.TabIs Tryd.prog w "astrolabe/ops.costs" .i64 tab0) (hc : 23 ≤ a0 ∧ a0 ≤ 23) :
    Calls Tryd.prog 6 #[.int .i64 a0, .int .i32 a1, .int .i32 a2] w fun e w' => e = .returned (.bool true) ∧ Below w.heap.size w w' :=
  lawT_of (runT_ok smB_ok (fun _ _ => .auto) 2 [(23, 23), (-2147483648, 2147483647), (-2147483648, 2147483647)] [⟨[.int .i64], .v 3, .c 43, .c 43, some 0⟩]) (ρ := envR [a0, a1, a2, LZ tab0] [tabRo 0 .i64 tab0]) (envR_ok (cx := cxOf 2 [(23, 23), (-2147483648, 2147483647), (-2147483648, 2147483647)] [⟨[.int .i64], .v 3, .c 43, .c 43, some 0⟩]) rfl rfl (bnd_cons hc (bnd_cons (wf_bd w1) (bnd_cons (wf_bd w2) (bnd_nil _)))) ⟨⟨rfl, rfl, rfl, rfl, (fun h => by cases h), fun g h => by cases h; rfl⟩, trivial⟩) (f := 6) (args := [.int .i64 (.c 23), .int .i32 (.v 1), .int .i32 (.v 2)]) (t := tree) ran fineT
    (by rw [plain]; exact holds a0 a1 a2 hc.1 hc.2 (wf_bd w1).1 (wf_bd w1).2 (wf_bd w2).1 (wf_bd w2).2) (roOk_of ⟨tabRo_at t0 tabG0 tabW0, trivial⟩) (by obtain rfl : a0 = 23 := (by omega); rfl)

end c3

namespace c4
def tree : TT (List E) :=
(.leaf [(.b .eq .i64 (.w .i64 (.b .padd .i64 (.w .i64 (.f 13 (.v 3) (.c 21) (.c 0))) (.c 3))) (.c 5))])

def P (a0 a1 a2 a3 : Int) : Prop :=
 ((bool01 ((IntKind.wrap .i64 ((IntKind.wrap .i64 (rdZ a3 21)) + 3)) == 5)) : Int) ≠ 0

theorem plain (a0 a1 a2 a3 : Int) (ro : List RO) : TT.hdP (cxOf 2 [(24, 43), (-2147483648, 2147483647), (-2147483648, 2147483647)] [⟨[.int .i64], .v 3, .c 43, .c 43, some 0⟩]) isOne tree (envR [a0, a1, a2, a3] ro) = P a0 a1 a2 a3 := by kernel_rfl

theorem holds (a0 a1 a2 : Int) (l0 : 24 ≤ a0) (u0 : a0 ≤ 43) (l1 : -2147483648 ≤ a1) (u1 : a1 ≤ 2147483647) (l2 : -2147483648 ≤ a2) (u2 : a2 ≤ 2147483647) : P a0 a1 a2 (LZ tab0) := by
  have h5 : (IntKind.wrap .i64 ((IntKind.wrap .i64 (rdZ (LZ tab0) 21)) + 3)) = 5 := by rw [rdZ_LZ]; decide
  have r1 : IntKind.wrap .i64 (rdZ (LZ tab0) 21) = 2 := by rw [rdZ_LZ]; decide
  have r2 : IntKind.wrap .i64 (rdZ (LZ tab0) 22) = 2 := by rw [rdZ_LZ]; decide
  have c1 := cost_bd l1 u1
  have hh := fun h : ¬ a1 ≤ 0 => cost_half (x := a1) (by omega) u1
  have ew : IntKind.wrap .i64 (2 + cost a1) = 2 + cost a1 := w64 (by omega) (by omega)
  unfold P
  rw [h5]
  first
    | (exact (by decide : bool01 ((5 : Int) == 5) ≠ 0))
    | skip
  all_goals first
    | (simp only [show ∀ x, blen64 (IntKind.wrap .u64 (maxZ x (0 - x))) = cost x from fun _ => rfl]
       by_cases h1 : a1 ≤ 0
       · simp [h1, r1, r2, ew, c1, bool01]; omega
       · have := hh h1
         have ew2 : IntKind.wrap .i64 (2 + cost (BO.ev .quo .i32 a1 2)) = 2 + cost a1 - 1 := by rw [this, w64 (by omega) (by omega)]; omega
         have ew3 : IntKind.wrap .i64 (2 + cost a1 - 1) = 2 + cost a1 - 1 := w64 (by omega) (by omega)
         simp [h1, r1, r2, ew, ew2, ew3, c1, bool01]; omega)

theorem ran : TT.beq (projL pjB (runT smB (fun _ _ => .auto) 2 [(24, 43), (-2147483648, 2147483647), (-2147483648, 2147483647)] [⟨[.int .i64], .v 3, .c 43, .c 43, some 0⟩] 6 [.int .i64 (.v 0), .int .i32 (.v 1), .int .i32 (.v 2)] ⟨[], []⟩)) tree = true := by kernel_rfl
theorem fineT : (TT.fine (cxOf 2 [(24, 43), (-2147483648, 2147483647), (-2147483648, 2147483647)] [⟨[.int .i64], .v 3, .c 43, .c 43, some 0⟩]) 1000 [] tree && (cxOf 2 [(24, 43), (-2147483648, 2147483647), (-2147483648, 2147483647)] [⟨[.int .i64], .v 3, .c 43, .c 43, some 0⟩]).okB 1000 && SV.vbL 1000 [.int .i64 (.v 0), .int .i32 (.v 1), .int .i32 (.v 2)] && TT.tidy (cxOf 2 [(24, 43), (-2147483648, 2147483647), (-2147483648, 2147483647)] [⟨[.int .i64], .v 3, .c 43, .c 43, some 0⟩]) [] tree) = true := by kernel_rfl
theorem walk (a0 a1 a2 : Int) (w0 : (Lit.int .i64 a0).wf = true) (w1 : (Lit.int .i32 a1).wf = true) (w2 : (Lit.int .i32 a2).wf = true) (w : World) (t0 : Lib.TabIs Tryd.prog w "astrolabe/ops.costs" .i64 tab0) (hc : 24 ≤ a0 ∧ a0 ≤ 43) :
    Calls Tryd.prog 6 #[.int .i64 a0, .int .i32 a1, .int .i32 a2] w fun e w' => e = .returned (.bool true) ∧ Below w.heap.size w w' :=
  lawT_of (runT_ok smB_ok (fun _ _ => .auto) 2 [(24, 43), (-2147483648, 2147483647), (-2147483648, 2147483647)] [⟨[.int .i64], .v 3, .c 43, .c 43, some 0⟩]) (ρ := envR [a0, a1, a2, LZ tab0] [tabRo 0 .i64 tab0]) (envR_ok (cx := cxOf 2 [(24, 43), (-2147483648, 2147483647), (-2147483648, 2147483647)] [⟨[.int .i64], .v 3, .c 43, .c 43, some 0⟩]) rfl rfl (bnd_cons hc (bnd_cons (wf_bd w1) (bnd_cons (wf_bd w2) (bnd_nil _)))) ⟨⟨rfl, rfl, rfl, rfl, (fun h => by cases h), fun g h => by cases h; rfl⟩, trivial⟩) (f := 6) (args := [.int .i64 (.v 0), .int .i32 (.v 1), .int .i32 (.v 2)]) (t := tree) ran fineT
    (by rw [plain]; exact holds a0 a1 a2 hc.1 hc.2 (wf_bd w1).1 (wf_bd w1).2 (wf_bd w2).1 (wf_bd w2).2) (roOk_of ⟨tabRo_at t0 tabG0 tabW0, trivial⟩) rfl

end c4

namespace c5
def tree : TT (List E) :=
(.leaf [(.b .eq .i64 (.w .i64 (.b .padd .i64 (.w .i64 (.f 13 (.v 3) (.c 21) (.c 0))) (.c 3))) (.c 5))])

def P (a0 a1 a2 a3 : Int) : Prop :=
 ((bool01 ((IntKind.wrap .i64 ((IntKind.wrap .i64 (rdZ a3 21)) + 3)) == 5)) : Int) ≠ 0

theorem plain (a0 a1 a2 a3 : Int) (ro : List RO) : TT.hdP (cxOf 2 [(44, 9223372036854775807), (-2147483648, 2147483647), (-2147483648, 2147483647)] [⟨[.int .i64], .v 3, .c 43, .c 43, some 0⟩]) isOne tree (envR [a0, a1, a2, a3] ro) = P a0 a1 a2 a3 := by kernel_rfl

theorem holds (a0 a1 a2 : Int) (l0 : 44 ≤ a0) (u0 : a0 ≤ 9223372036854775807) (l1 : -2147483648 ≤ a1) (u1 : a1 ≤ 2147483647) (l2 : -2147483648 ≤ a2) (u2 : a2 ≤ 2147483647) : P a0 a1 a2 (LZ tab0) := by
  have h5 : (IntKind.wrap .i64 ((IntKind.wrap .i64 (rdZ (LZ tab0) 21)) + 3)) = 5 := by rw [rdZ_LZ]; decide
  have r1 : IntKind.wrap .i64 (rdZ (LZ tab0) 21) = 2 := by rw [rdZ_LZ]; decide
  have r2 : IntKind.wrap .i64 (rdZ (LZ tab0) 22) = 2 := by rw [rdZ_LZ]; decide
  have c1 := cost_bd l1 u1
  have hh := fun h : ¬ a1 ≤ 0 => cost_half (x := a1) (by omega) u1
  have ew : IntKind.wrap .i64 (2 + cost a1) = 2 + cost a1 := w64 (by omega) (by omega)
  unfold P
  rw [h5]
  first
    | (exact (by decide : bool01 ((5 : Int) == 5) ≠ 0))
    | skip
  all_goals first
    | (simp only [show ∀ x, blen64 (IntKind.wrap .u64 (maxZ x (0 - x))) = cost x from fun _ => rfl]
       by_cases h1 : a1 ≤ 0
       · simp [h1, r1, r2, ew, c1, bool01]; omega
       · have := hh h1
         have ew2 : IntKind.wrap .i64 (2 + cost (BO.ev .quo .i32 a1 2)) = 2 + cost a1 - 1 := by rw [this, w64 (by omega) (by omega)]; omega
         have ew3 : IntKind.wrap .i64 (2 + cost a1 - 1) = 2 + cost a1 - 1 := w64 (by omega) (by omega)
         simp [h1, r1, r2, ew, ew2, ew3, c1, bool01]; omega)

theorem ran : TT.beq (projL pjB (runT smB (fun _ _ => .auto) 2 [(44, 9223372036854775807), (-2147483648, 2147483647), (-2147483648, 2147483647)] [⟨[.int .i64], .v 3, .c 43, .c 43, some 0⟩] 6 [.int .i64 (.v 0), .int .i32 (.v 1), .int .i32 (.v 2)] ⟨[], []⟩)) tree = true := by kernel_rfl
theorem fineT : (TT.fine (cxOf 2 [(44, 9223372036854775807), (-2147483648, 2147483647), (-2147483648, 2147483647)] [⟨[.int .i64], .v 3, .c 43, .c 43, some 0⟩]) 1000 [] tree && (cxOf 2 [(44, 9223372036854775807), (-2147483648, 2147483647), (-2147483648, 2147483647)] [⟨[.int .i64], .v 3, .c 43, .c 43, some 0⟩]).okB 1000 && SV.vbL 1000 [.int .i64 (.v 0), .int .i32 (.v 1), .int .i32 (.v 2)] && TT.tidy (cxOf 2 [(44, 9223372036854775807), (-2147483648, 2147483647), (-2147483648, 2147483647)] [⟨[.int .i64], .v 3, .c 43, .c 43, some 0⟩]) [] tree) = true := by kernel_rfl
theorem walk (a0 a1 a2 : Int) (w0 : (Lit.int .i64 a0).wf = true) (w1 : (Lit.int .i32 a1).wf = true) (w2 : (Lit.int .i32 a2).wf = true) (w : World) (t0 : Lib.TabIs Tryd.prog w "astrolabe/ops.costs" .i64 tab0) (hc : 44 ≤ a0 ∧ a0 ≤ 9223372036854775807) :
    Calls Tryd.prog 6 #[.int .i64 a0, .int .i32 a1, .int .i32 a2] w fun e w' => e = .returned (.bool true) ∧ Below w.heap.size w w' :=
  lawT_of (runT_ok smB_ok (fun _ _ => .auto) 2 [(44, 9223372036854775807), (-2147483648, 2147483647), (-2147483648, 2147483647)] [⟨[.int .i64], .v 3, .c 43, .c 43, some 0⟩]) (ρ := envR [a0, a1, a2, LZ tab0] [tabRo 0 .i64 tab0]) (envR_ok (cx := cxOf 2 [(44, 9223372036854775807), (-2147483648, 2147483647), (-2147483648, 2147483647)] [⟨[.int .i64], .v 3, .c 43, .c 43, some 0⟩]) rfl rfl (bnd_cons hc (bnd_cons (wf_bd w1) (bnd_cons (wf_bd w2) (bnd_nil _)))) ⟨⟨rfl, rfl, rfl, rfl, (fun h => by cases h), fun g h => by cases h; rfl⟩, trivial⟩) (f := 6) (args := [.int .i64 (.v 0), .int .i32 (.v 1), .int .i32 (.v 2)]) (t := tree) ran fineT
    (by rw [plain]; exact holds a0 a1 a2 hc.1 hc.2 (wf_bd w1).1 (wf_bd w1).2 (wf_bd w2).1 (wf_bd w2).2) (roOk_of ⟨tabRo_at t0 tabG0 tabW0, trivial⟩) rfl

end c5

theorem walk (a0 a1 a2 : Int) (w0 : (Lit.int .i64 a0).wf = true) (w1 : (Lit.int .i32 a1).wf = true) (w2 : (Lit.int .i32 a2).wf = true) (w : World) (t0 : Lib.TabIs Tryd.prog w "astrolabe/ops.costs" .i64 tab0) :
    Calls Tryd.prog 6 #[.int .i64 a0, .int .i32 a1, .int .i32 a2] w fun e w' => e = .returned (.bool true) ∧ Below w.heap.size w w' := by
  have b0 := wf_bd w0
  simp only [klo, khi] at b0
  by_cases h0 : a0 ≤ 0
  · exact c0.walk a0 a1 a2 w0 w1 w2 w t0 ⟨by omega, by omega⟩
  by_cases h1 : a0 ≤ 21
  · exact c1.walk a0 a1 a2 w0 w1 w2 w t0 ⟨by omega, by omega⟩
  by_cases h2 : a0 ≤ 22
  · exact c2.walk a0 a1 a2 w0 w1 w2 w t0 ⟨by omega, by omega⟩
  by_cases h3 : a0 ≤ 23
  · exact c3.walk a0 a1 a2 w0 w1 w2 w t0 ⟨by omega, by omega⟩
  by_cases h4 : a0 ≤ 43
  · exact c4.walk a0 a1 a2 w0 w1 w2 w t0 ⟨by omega, by omega⟩
  exact c5.walk a0 a1 a2 w0 w1 w2 w t0 ⟨by omega, by omega⟩

/-! ### the row's step -/
set_option maxRecDepth 100000
theorem door_met (os : Os) (args : Array Value) : laidMetH Tryd.prog Rows.aluCostsRow.laid ((World.doorLaid Tryd.prog 400 os).forCall (fun _ _ => 0) ⟨#[], args, []⟩).memory :=
  laidMetH_of_parts3 (fuel := 8) (laidMet_of_run' 8 (by kernel_rfl) (by kernel_rfl)) (by kernel_rfl) (by kernel_rfl)
theorem tab_of {W : World} (h : laidMetH Tryd.prog Rows.aluCostsRow.laid W) : Lib.TabIs Tryd.prog W "astrolabe/ops.costs" .i64 tab0 := by
  rw [MakeChecks.laidMetH_plain _ _ _ (by kernel_rfl)] at h
  exact Lib.tabIs_of_head (rest := []) tabG0 (t := 46) (e := 3) (n := 43) (by kernel_rfl) (by kernel_rfl) (by kernel_rfl) (by kernel_rfl) (by kernel_rfl) h

theorem lifted (os : Os) (started : os.Started) (H : Type) (enc : TypeId × Value → H) :
    ReturnsInHanded {} Tryd.checked os 6 .any (fun w args => (Rows.aluCostsSpec.pre enc Tryd.prog Tryd.f6 Rows.aluCostsRow.domain false w args ∧ laidMetH Tryd.prog Rows.aluCostsRow.laid w) ∧ sizedMet enc Tryd.prog Tryd.f6 (OpenSpec.ofChange Rows.aluCostsSpec) false w args)
      (Rows.aluCostsSpec.post enc Tryd.prog Tryd.f6 false true false false) := by
  refine returnsInHanded_of_change_and (C := Tryd.checked) (X := fun w _ => laidMetH Tryd.prog Rows.aluCostsRow.laid w) (fun _ _ _ hh h => h.of_heap hh) own started (by kernel_rfl) Tryd.func6
    (ChangeSpec.witness_shaped (enc := enc) (C := Tryd.checked) (os := os) (X := fun w _ => laidMetH Tryd.prog Rows.aluCostsRow.laid w) false (World.doorLaid Tryd.prog 400 os) #[.int .i64 0, .int .i32 0, .int .i32 0] 8 rfl (World.shaped_of_RefB (by kernel_rfl) (by kernel_rfl)) (by kernel_rfl) (by kernel_rfl) (by kernel_rfl) (door_met os _)) ?_
  intro W base args ds gs before hval0 hW hcnd _ hL _
  have hval : ∀ (j : Nat) t v, Tryd.f6.params[j]? = some t → args[j]? = some v → Value.okWide Tryd.prog W .any base t v := hval0
  have hW' := hW
  obtain ⟨p, q, hA0, hV, rfl, hfz, hnd⟩ := hW
  have hA : DataW.TrodAll enc Tryd.prog W 0 (fun _ => true) true Tryd.f6.params.toList args.toList ds p := hA0
  rw [Tryd.params6] at hA hval
  obtain ⟨v0, vs0, d0, ds0, p0, q0, hargs, rfl, rfl, h0, r0⟩ := trodAll_cons hA
  obtain ⟨v1, vs1, d1, ds1, p1, q1, rfl, rfl, rfl, h1, r1⟩ := trodAll_cons r0
  obtain ⟨v2, vs2, d2, ds2, p2, q2, rfl, rfl, rfl, h2, r2⟩ := trodAll_cons r1
  obtain ⟨rfl, rfl, rfl⟩ := trodAll_nil r2
  obtain rfl : args = #[v0, v1, v2] := by cases args; simp_all
  obtain ⟨rfl, rfl⟩ := trodVars_none hV
  obtain ⟨a0, rfl, rfl, rfl, w0⟩ := open_int Tryd.underlying3 (hval 0 3 v0 rfl rfl) h0
  obtain ⟨a1, rfl, rfl, rfl, w1⟩ := open_int Tryd.underlying21 (hval 1 21 v1 rfl rfl) h1
  obtain ⟨a2, rfl, rfl, rfl, w2⟩ := open_int Tryd.underlying21 (hval 2 21 v2 rfl rfl) h2
  clear hA0 hval0
  simp only [List.append_nil] at hW'
  refine (walk a0 a1 a2 w0 w1 w2 W (tab_of hL)).mono fun e W' ⟨he, hg⟩ => ?_
  subst he
  exact ⟨_, rfl, post_below (pa := []) (pv := []) hW' hg (fun _ _ _ => (trodAll_cons_mk (shut_bool Tryd.underlying4 _) trodAll_mk0)) (fun sp _ => (trodAll_cons_mk (shut_int Tryd.underlying3 w0) (trodAll_cons_mk (shut_int Tryd.underlying21 w1) (trodAll_cons_mk (shut_int Tryd.underlying21 w2) trodAll_mk0)))) (fun _ _ => rfl) rfl
    (ok_one (by kernel_rfl) rfl (okWide_bool_mk Tryd.underlying4 _))⟩

theorem over : Rows.aluCostsRow.holds Tryd.pinned (OpenSpec.ofChange Rows.aluCostsSpec) :=
  OpenClaim.holds_of_wide 6 Tryd.f6 rfl rfl rfl rfl rfl rfl rfl ⟨rfl, rfl, rfl, rfl, rfl⟩ rfl rfl rfl rfl rfl (by kernel_rfl) Tryd.func6 (by kernel_rfl)
    (of_decide_eq_true (by kernel_rfl)) (by unfold Func.isWrapper; first | (rw [if_pos (by decide +kernel)]; kernel_rfl) | (rw [if_neg (by decide +kernel)]; exact ⟨rfl, rfl⟩))
    (fun os started H enc _ => lifted os started H enc)

/-- the statement -/
theorem proved : Rows.AluCostsCardSaid :=
  Claim7.holds_tied_plain_at .later [] [.data] true (true, "a66708c7ca074a02a54ef07774f954fca9e4cd7dd1bfbf93ef4caf8b965f6961") false
    over (fun _ h => by cases h) (by kernel_rfl) (fun _ h => by cases h) aluCosts_row_tie rfl ⟨rfl, rfl⟩ (by kernel_rfl) rfl
    (fun f fn hf hfn => by
      obtain rfl : f = 6 := Option.some.inj ((show Tryd.prog.funcNamed "astrolabe/astrolabelaw07.AluCosts" = some 6 by kernel_rfl).symm.trans hf) |>.symm
      obtain rfl : fn = Tryd.f6 := (Option.some.inj (Tryd.func6.symm.trans hfn)).symm
      exact ⟨by kernel_rfl, fun j t ht => by
        rw [Tryd.params6] at ht
        have h3 : t = 21 ∨ t = 3 := by
          rcases j with _ | _ | _ | j
          · exact (.inr (by simpa using ht.symm))
          · exact (.inl (by simpa using ht.symm))
          · exact (.inl (by simpa using ht.symm))
          · simp at ht
        rcases h3 with rfl | rfl
        · exact (show Tryd.prog.wantsStandIn 21 = false by kernel_rfl)
        · exact (show Tryd.prog.wantsStandIn 3 = false by kernel_rfl)⟩)
    (by kernel_rfl)
#print axioms proved
end Go.Proofs.YtjooaieolphomaaDoor.aluCosts
