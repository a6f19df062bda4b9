/-
  What functions of the program answer, as numbers of what they are handed: their runs by the engine, the plain statements behind them. No condition.
-/
import Derived.Test.YtdnkgacjibjlhaaGreatDoorGab
import Derived.Test.YtdnkgacjibjlhaaGreatDoorGp5
set_option linter.unusedVariables false
set_option linter.unusedSimpArgs false
set_option maxRecDepth 100000
namespace Go.Proofs.YtdnkgacjibjlhaaGreatDoor
open Go.Eng Go.RowKit
namespace CSBin
def rc : Rc := ⟨19, [none, none], [.row [.int .i64] 1000000, .int .i64], [(.f 176 (.v 2) (.v 0) (.c 0))], .tup [none, none], [.int .i64 (.f 173 (.v 2) (.v 0) (.v 1)), .bool (.b .pmul .i64 (.b .lt .i64 (.f 173 (.v 2) (.v 0) (.v 1)) (.v 0)) (.b .eq .i64 (.w .i64 (.f 13 (.v 2) (.f 173 (.v 2) (.v 0) (.v 1)) (.c 0))) (.v 1)))]⟩
theorem okb : rc.ok = true := by kernel_rfl
noncomputable def us : SMs := fun Γ ins n => smH (cxG n Γ ins) [] (smR (cxG n Γ ins) [])
theorem us_ok : SMsOk us := fun Γ ins n => qZs (tabsG n Γ ins) (qZy _) (qZp (tabsG n Γ ins) (qZv _))
def Q0 : E := (.cl 1000 (-9223372036854775808) 9223372036854775807)
def Q1 : E := (.cl 1001 (-9223372036854775808) 9223372036854775807)
def Q2 : E := (tp Q0 Q1)
def Q3 : E := (.w .u64 Q2)
def Q4 : E := (.b .shr .u64 Q3 (.c 1))
def tree : TT (List E) :=
 (.loop ⟨1000, [some (-9223372036854775808, 9223372036854775807), some (-9223372036854775808, 9223372036854775807)], [(.c 0), (.v 0)], 1003⟩ (.br (tk Q0 Q1) (.br (tk Q4 (.v 0)) (.br (tk (t6 (tR (.v 2) Q4)) (.v 1)) (.back [(t6 (tp Q4 (.c 1))), Q1]) (.back [Q0, Q4])) (.bad 200)) (.exit 0)) (.br (tk Q0 (.v 0)) (.br (tl (.c 0) Q0) (.br (te (t6 (tR (.v 2) Q0)) (.v 1)) (.leaf [Q0, (.c 1)]) (.leaf [Q0, (.c 0)])) (.bad 200)) (.leaf [Q0, (.c 0)])))
def sL0 (y0 c a b z2 : Int) : Prop := (y0 : Int) = (cltZ c a b) ∧ ((z2 : Int) ≠ 0 ↔ (((Pl (cltZ c a b) a) * (Pe (W6 (rdZ c (cltZ c a b))) b)) : Int) ≠ 0) ∧ True
def P (a b c d : Int) : Prop :=
 ∃ I1000 : Int → Int → Nat → Prop, (∃ m, I1000 0 a m) ∧ ∀ y0 y1 : Int, ∀ m0, (((-9223372036854775808) ≤ y0 ∧ y0 ≤ 9223372036854775807) ∧ ((-9223372036854775808) ≤ y1 ∧ y1 ≤ 9223372036854775807) ∧ True) → I1000 y0 y1 m0 → (Pb (Pl y0 y1) (Pm (Pl (shrZ .u64 (IntKind.wrap .u64 (y0 + y1)) 1) a) (Pb (Pl (W6 (rdZ c (shrZ .u64 (IntKind.wrap .u64 (y0 + y1)) 1))) b) (∃ m', m' < m0 ∧ I1000 (W6 ((shrZ .u64 (IntKind.wrap .u64 (y0 + y1)) 1) + 1)) y1 m') (∃ m', m' < m0 ∧ I1000 y0 (shrZ .u64 (IntKind.wrap .u64 (y0 + y1)) 1) m'))) (Pb (Pl y0 a) (Pm (PL 0 y0) (Pb (Pe (W6 (rdZ c y0)) b) (sL0 y0 c a b 1) (sL0 y0 c a b 0))) (sL0 y0 c a b 0)))
set_option maxHeartbeats 4000000 in
theorem holds (n0 p1 c0 r0 : Int) (l_n0 : 0 ≤ n0) (u_n0 : n0 ≤ 1000000) (l_p1 : -9223372036854775808 ≤ p1) (u_p1 : p1 ≤ 9223372036854775807) (h_n0 : n0 ≤ r0) (h_pre0 : (rseZ c0 n0) ≠ 0) : P n0 p1 c0 r0 := by
 delta P sL0 Pb Pm PL Pl Pe W6
 simp only [nrm, nro, Int.reduceEq, Int.reduceNeg, reduceIte]
 have hr : ∀ i j : Nat, i < j → (j : Int) < n0 → IntKind.wrap .i64 (rdZ c0 i) < IntKind.wrap .i64 (rdZ c0 j) := Classical.byContradiction fun g => h_pre0 (by unfold rseZ; rw [if_neg g])
 have hle : ∀ i j : Nat, i ≤ j → (j : Int) < n0 → IntKind.wrap .i64 (rdZ c0 i) ≤ IntKind.wrap .i64 (rdZ c0 j) := fun i j h hj => by
  rcases Nat.lt_or_ge i j with g | g
  ·exact Int.le_of_lt (hr i j g hj)
  ·rw [show i = j by omega]; exact Int.le_refl _
 refine ⟨fun i j m => (0 ≤ i ∧ i ≤ j ∧ j ≤ n0) ∧ (∀ k : Nat, (k : Int) < i → IntKind.wrap .i64 (rdZ c0 k) < p1) ∧ (∀ k : Nat, j ≤ (k : Int) → (k : Int) < n0 → ¬IntKind.wrap .i64 (rdZ c0 k) < p1) ∧ m = (j - i).toNat, ⟨_, ⟨by omega, by omega, by omega⟩, fun k hk => by omega, fun k h1 h2 => by omega, rfl⟩, ?_⟩
 rintro i j m - ⟨⟨i0, ij, jn⟩, hl, hg, rfl⟩
 have eu : IntKind.wrap .u64 (i + j) = i + j := qXk .u64 _ (by show (0 : Int) ≤ _; omega) (by show _ ≤ (18446744073709551615 : Int); omega)
 have es : shrZ .u64 (i + j) 1 = (i + j) / 2 := shr_ev .u64 (i + j) 1
 rw [eu, es]
 have ew : IntKind.wrap .i64 ((i + j) / 2 + 1) = (i + j) / 2 + 1 := w64 (by omega) (by omega)
 rw [ew]
 refine ⟨fun lt => ⟨by omega, fun hx => ?_, fun hx => ?_⟩, fun ge => ?_⟩
 ·obtain ⟨h, hh⟩ := Int.eq_ofNat_of_zero_le (by omega : 0 ≤ (i + j) / 2)
  rw [hh] at hx ⊢
  refine ⟨_, ?_, ⟨by omega, by omega, by omega⟩, fun k hk => Int.lt_of_le_of_lt (hle k h (by omega) (by omega)) hx, hg, rfl⟩
  omega
 ·obtain ⟨h, hh⟩ := Int.eq_ofNat_of_zero_le (by omega : 0 ≤ (i + j) / 2)
  rw [hh] at hx ⊢
  refine ⟨_, ?_, ⟨by omega, by omega, by omega⟩, hl, fun k h1 h2 => fun g => ?_, rfl⟩
  ·omega
  ·have := hle h k (by omega) h2
   omega
 ·have e : i = j := by omega
  subst e
  have hc := clt_split (c := c0) (t := p1) (by omega : n0 ≤ 1000000) i0 jn hl (fun k h1 h2 => hg k h1 h2)
  rw [hc]
  refine ⟨fun h1 => ⟨i0, fun h2 => ?_, fun h2 => ?_⟩, fun h1 => ?_⟩
  ·simp_all [qQz]
  ·simp_all [qQz]
  ·have : ¬i < n0 := by omega
   simp [qQz, this]
theorem plain (i v ro p) : statR 2 rc tree ⟨i, fN, v, ro, p⟩ = P (i 0) (i 1) (i 2) (i 3) := by kernel_rfl
theorem ran : ranR us (fun _ _ => .auto) rc 2 tree = true := by kernel_rfl
theorem fineT : fineR 2 rc tree = true := by kernel_rfl
theorem ok : RcOk (cxOf 2) rc := okR us_ok ran fineT okb fun i v ro p hρ hcap hpre => by rw [plain]; have q := hρ.hi; exact holds _ _ _ _ (q 0 _ rfl).1 (q 0 _ rfl).2 (q 1 _ rfl).1 (q 1 _ rfl).2 (hcap _ (mg 0 rfl)) (hpre _ (mg 0 rfl))
end CSBin
end Go.Proofs.YtdnkgacjibjlhaaGreatDoor
