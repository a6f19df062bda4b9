/-
  What functions of the program answer, as numbers of what they are handed: their runs by the engine, the plain statements behind them. No condition.
-/
import Derived.Test.YtppiabilakeadaaGreatDoorKe
import Derived.Test.YtppiabilakeadaaGreatDoorKf
import Derived.Test.YtppiabilakeadaaGreatDoorKg
import Derived.Test.YtppiabilakeadaaGreatDoorGab
import Derived.Test.YtppiabilakeadaaGreatDoorGp2
import Derived.Test.YtppiabilakeadaaGreatDoorGp3
set_option linter.unusedVariables false
set_option linter.unusedSimpArgs false
set_option maxRecDepth 100000
namespace Go.Proofs.YtppiabilakeadaaGreatDoor
open Go.Eng Go.RowKit
namespace CRNumber14
def rc : Rc := ⟨10, [none], [.str], [], .tup [none, none], [.int .i64 (.f 139 (.v 0) (.c 0) (.c 0)), .bool (.f 138 (.v 0) (.c 0) (.c 0))]⟩
theorem okb : rc.ok = true := by kernel_rfl
noncomputable def us : SMs := fun Γ ins n => smH (cxG n Γ ins) [] (smR (cxG n Γ ins) [CRDigits.rc])
theorem us_ok : SMsOk us := fun Γ ins n => qZb (tabsG n Γ ins) (qQs _) (qZw (tabsG n Γ ins) (qQw CRDigits.okb (rc_n CRDigits.ok) (qQt _)))
def Q0 : E := (.f 21 (.v 0) (.c 0) (.c 0))
def Q1 : E := (.b .psub .i64 Q0 (.c 1))
def Q2 : E := (.cl 1001 1 4611686018427387904)
def Q3 : E := (.f 22 (.v 0) Q2 (.c 0))
def Q4 : E := (tp Q2 (.c 1))
def Q5 : E := (.cl 1000 (-9223372036854775808) 9223372036854775807)
def Q6 : E := (.b .pmul .i64 (.c 10) Q5)
def Q7 : E := (t6 Q6)
def Q8 : E := (te (.v 1003) (.c 0))
def Q9 : E := (te (.v 1003) (.c 1))
def Q10 : E := (.b .psub .i64 (.c 0) Q5)
def Q11 : E := (t6 Q10)
def Q12 : E := (tk Q0 (.c 1))
def Q13 : E := (tk (.c 9) Q0)
def Q14 : E := (.cl 1001 0 4611686018427387904)
def Q15 : E := (.f 22 (.v 0) Q14 (.c 0))
def Q16 : E := (tp Q14 (.c 1))
def tree : TT (List E) :=
 (.br (tk (.c 0) Q0) (.br (te (.f 22 (.v 0) (.c 0) (.c 0)) (.c 45)) (.br (tk Q1 (.c 1)) (.leaf [(.c 0), (.c 0)]) (.br (tk (.c 9) Q1) (.leaf [(.c 0), (.c 0)]) (.loop ⟨1000, [some (-9223372036854775808, 9223372036854775807), some (1, 4611686018427387904)], [(.c 0), (.c 1)], 1003⟩ (.br (tk Q2 Q0) (.br (tk Q3 (.c 48)) (.exit 0) (.br (tk (.c 57) Q3) (.exit 1) (.br (tl Q4 (.c 4611686018427387904)) (.back [(t6 (tp Q7 (.w .u8 (.b .psub .i64 Q3 (.c 48))))), Q4]) (.bad 303)))) (.exit 2)) (.br Q8 (.leaf [(.c 0), (.c 0)]) (.br Q9 (.leaf [(.c 0), (.c 0)]) (.br (tl (.c (-999999999)) Q11) (.br (tl Q11 (.c 999999999)) (.br (.nt (.f 20 (.f 129 Q11 (.c 0) (.c 0)) (.v 0) (.c 0))) (.leaf [(.c 0), (.c 0)]) (.leaf [Q11, (.c 1)])) (.bad 200)) (.bad 200))))))) (.br Q12 (.leaf [(.c 0), (.c 0)]) (.br Q13 (.leaf
 [(.c 0), (.c 0)]) (.loop ⟨1000, [some (-9223372036854775808, 9223372036854775807), some (0, 4611686018427387904)], [(.c 0), (.c 0)], 1003⟩ (.br (tk Q14 Q0) (.br (tk Q15 (.c 48)) (.exit 0) (.br (tk (.c 57) Q15) (.exit 1) (.br (tl Q16 (.c 4611686018427387904)) (.back [(t6 (tp Q7 (.w .u8 (.b .psub .i64 Q15 (.c 48))))), Q16]) (.bad 303)))) (.exit 2)) (.br Q8 (.leaf [(.c 0), (.c 0)]) (.br Q9 (.leaf [(.c 0), (.c 0)]) (.br (tl (.c (-999999999)) Q5) (.br (tl Q5 (.c 999999999)) (.br (.nt (.f 20 (.f 129 Q5 (.c 0) (.c 0)) (.v 0) (.c 0))) (.leaf [(.c 0), (.c 0)]) (.leaf [Q5, (.c 1)])) (.bad 200)) (.bad 200)))))))) (.br Q12 (.leaf [(.c 0), (.c 0)]) (.br Q13 (.leaf [(.c 0), (.c 0)]) (.br (.nt (.f 20 (.f 129 (.c 0) (.c 0) (.c 0)) (.v 0) (.c 0))) (.leaf [(.c 0), (.c 0)]) (.leaf [(.c 0), (.c 1)])))))
def sq0 (y0 a : Int) : Prop := (Pm (PL (-999999999) (W6 (0 - y0))) (Pm (PL (W6 (0 - y0)) 999999999) (Pb (Pe (seqZ (itoZ (W6 (0 - y0))) a) 0) ((0 : Int) = (numZ a) ∧ ((0 : Int) ≠ 0 ↔ ((numK a) : Int) ≠ 0) ∧ True) (((W6 (0 - y0)) : Int) = (numZ a) ∧ ((1 : Int) ≠ 0 ↔ ((numK a) : Int) ≠ 0) ∧ True))))
def sq1 (y0 a : Int) : Prop := (Pm (PL (-999999999) y0) (Pm (PL y0 999999999) (Pb (Pe (seqZ (itoZ y0) a) 0) ((0 : Int) = (numZ a) ∧ ((0 : Int) ≠ 0 ↔ ((numK a) : Int) ≠ 0) ∧ True) ((y0 : Int) = (numZ a) ∧ ((1 : Int) ≠ 0 ↔ ((numK a) : Int) ≠ 0) ∧ True))))
def P (a : Int) : Prop :=
 (Pb (Pl 0 (qQz a)) (Pb (Pe (qQy a 0) 45) (Pb (Pl ((qQz a) - 1) 1) ((0 : Int) = (numZ a) ∧ ((0 : Int) ≠ 0 ↔ ((numK a) : Int) ≠ 0) ∧ True) (Pb (Pl 9 ((qQz a) - 1)) ((0 : Int) = (numZ a) ∧ ((0 : Int) ≠ 0 ↔ ((numK a) : Int) ≠ 0) ∧ True) (∃ I1000 : Int → Int → Nat → Prop, (∃ m, I1000 0 1 m) ∧ ∀ y0 y1 : Int, ∀ m0, (((-9223372036854775808) ≤ y0 ∧ y0 ≤ 9223372036854775807) ∧ (1 ≤ y1 ∧ y1 ≤ 4611686018427387904) ∧ True) → I1000 y0 y1 m0 → (Pb (Pl y1 (qQz a)) (Pb (Pl (qQy a y1) 48) (Pb (Pe (0 : Int) 0) ((0 : Int) = (numZ a) ∧ ((0 : Int) ≠ 0 ↔ ((numK a) : Int) ≠ 0) ∧ True) (Pb (Pe (0 : Int) 1) ((0 : Int) = (numZ a) ∧ ((0 : Int) ≠ 0 ↔ ((numK a) : Int) ≠ 0) ∧ True) (sq0 y0 a))) (Pb (Pl 57 (qQy a y1)) (Pb (Pe (1 : Int) 0) ((0 : Int) = (numZ a) ∧ ((0 : Int) ≠ 0 ↔ ((numK a) : Int) ≠ 0) ∧
 True) (Pb (Pe (1 : Int) 1) ((0 : Int) = (numZ a) ∧ ((0 : Int) ≠ 0 ↔ ((numK a) : Int) ≠ 0) ∧ True) (sq0 y0 a))) (Pm (PL (y1 + 1) 4611686018427387904) (∃ m', m' < m0 ∧ I1000 (W6 ((W6 (10 * y0)) + (IntKind.wrap .u8 ((qQy a y1) - 48)))) (y1 + 1) m')))) (Pb (Pe (2 : Int) 0) ((0 : Int) = (numZ a) ∧ ((0 : Int) ≠ 0 ↔ ((numK a) : Int) ≠ 0) ∧ True) (Pb (Pe (2 : Int) 1) ((0 : Int) = (numZ a) ∧ ((0 : Int) ≠ 0 ↔ ((numK a) : Int) ≠ 0) ∧ True) (sq0 y0 a))))))) (Pb (Pl (qQz a) 1) ((0 : Int) = (numZ a) ∧ ((0 : Int) ≠ 0 ↔ ((numK a) : Int) ≠ 0) ∧ True) (Pb (Pl 9 (qQz a)) ((0 : Int) = (numZ a) ∧ ((0 : Int) ≠ 0 ↔ ((numK a) : Int) ≠ 0) ∧ True) (∃ I1000 : Int → Int → Nat → Prop, (∃ m, I1000 0 0 m) ∧ ∀ y0 y1 : Int, ∀ m0, (((-9223372036854775808) ≤ y0 ∧ y0 ≤ 9223372036854775807) ∧ (0 ≤ y1 ∧ y1 ≤
 4611686018427387904) ∧ True) → I1000 y0 y1 m0 → (Pb (Pl y1 (qQz a)) (Pb (Pl (qQy a y1) 48) (Pb (Pe (0 : Int) 0) ((0 : Int) = (numZ a) ∧ ((0 : Int) ≠ 0 ↔ ((numK a) : Int) ≠ 0) ∧ True) (Pb (Pe (0 : Int) 1) ((0 : Int) = (numZ a) ∧ ((0 : Int) ≠ 0 ↔ ((numK a) : Int) ≠ 0) ∧ True) (sq1 y0 a))) (Pb (Pl 57 (qQy a y1)) (Pb (Pe (1 : Int) 0) ((0 : Int) = (numZ a) ∧ ((0 : Int) ≠ 0 ↔ ((numK a) : Int) ≠ 0) ∧ True) (Pb (Pe (1 : Int) 1) ((0 : Int) = (numZ a) ∧ ((0 : Int) ≠ 0 ↔ ((numK a) : Int) ≠ 0) ∧ True) (sq1 y0 a))) (Pm (PL (y1 + 1) 4611686018427387904) (∃ m', m' < m0 ∧ I1000 (W6 ((W6 (10 * y0)) + (IntKind.wrap .u8 ((qQy a y1) - 48)))) (y1 + 1) m')))) (Pb (Pe (2 : Int) 0) ((0 : Int) = (numZ a) ∧ ((0 : Int) ≠ 0 ↔ ((numK a) : Int) ≠ 0) ∧ True) (Pb (Pe (2 : Int) 1) ((0 : Int) = (numZ a) ∧ ((0
 : Int) ≠ 0 ↔ ((numK a) : Int) ≠ 0) ∧ True) (sq1 y0 a)))))))) (Pb (Pl (qQz a) 1) ((0 : Int) = (numZ a) ∧ ((0 : Int) ≠ 0 ↔ ((numK a) : Int) ≠ 0) ∧ True) (Pb (Pl 9 (qQz a)) ((0 : Int) = (numZ a) ∧ ((0 : Int) ≠ 0 ↔ ((numK a) : Int) ≠ 0) ∧ True) (Pb (Pe (seqZ (itoZ 0) a) 0) ((0 : Int) = (numZ a) ∧ ((0 : Int) ≠ 0 ↔ ((numK a) : Int) ≠ 0) ∧ True) ((0 : Int) = (numZ a) ∧ ((1 : Int) ≠ 0 ↔ ((numK a) : Int) ≠ 0) ∧ True)))))
theorem holds (s0 : Int) : P s0 := by
 delta P sq0 sq1 Pb Pm PL Pl Pe W6
 have hl := qZu s0
 have hb := qZo s0
 simp only [nrm, Int.reduceEq, Int.reduceNeg, reduceIte]
 have main : ∀ f : Int, 0 ≤ f → f ≤ qQz s0 → 1 ≤ qQz s0 → qQz s0 - f ≤ 9 → bodyL (bytL s0) = (bytL s0).drop f.toNat → ∀ v i : Int, f ≤ i → i ≤ qQz s0 → 0 ≤ v → Lib.decFrom 0 (((bytL s0).drop f.toNat).take (i - f).toNat) = some v.toNat →
   v ≤ 999999999 ∧ (qQz s0 ≤ i → ∀ n, (n = if qQy s0 0 = 45 then 0 - v else v) → (seqZ (itoZ n) s0 = 0 → 0 = numZ s0 ∧ numK s0 = 0) ∧ (¬ seqZ (itoZ n) s0 = 0 → n = numZ s0 ∧ ¬ numK s0 = 0)) := by
  intro f f0 f1 f2 f9 hB v i i0 i1 v0 hv
  have hlt := qVj _ _ _ hv
  have hlen : (((bytL s0).drop f.toNat).take (i - f).toNat).length ≤ 9 := by rw [List.length_take, List.length_drop]; omega
  have hp : 10 ^ (((bytL s0).drop f.toNat).take (i - f).toNat).length ≤ 10 ^ 9 := Nat.pow_le_pow_right (by omega) hlen
  have e9 : (10 : Nat) ^ 9 = 1000000000 := by decide
  have hv9 : v ≤ 999999999 := by omega
  refine ⟨hv9, fun hi n hn => num_end f2 ?_ v0 hv9 hn⟩
  rw [hB]
  rw [List.take_of_length_le (by rw [List.length_drop]; omega)] at hv
  exact hv
 refine ⟨fun h1 => ⟨fun h45 => ?_, fun h45 => ?_⟩, fun h1 => ?_⟩
 ·have hB := body_len (s := s0) (by omega)
  rw [if_pos h45] at hB
  have hlen : ((bodyL (bytL s0)).length : Int) = qQz s0 - 1 := by rw [hB, List.length_drop]; omega
  refine ⟨fun h => qKv ?_, fun h => ⟨fun h9 => qKv (num_long (by omega)), fun h9 => ?_⟩⟩
  ·have h1 : qQz s0 = 1 := by omega
   refine num_no ?_
   have hd := qVz (s := s0) (i := 0) (by omega) (by omega)
   have hd : bytL s0 = UInt8.ofNat (qQy s0 0).toNat :: (bytL s0).drop 1 := hd
   rw [hd, List.drop_of_length_le (by omega), h45]
   rfl
  ·refine ⟨fun v i m => 1 ≤ i ∧ i ≤ qQz s0 ∧ 0 ≤ v ∧ m = (qQz s0 - i).toNat ∧ Lib.decFrom 0 (((bytL s0).drop (1 : Int).toNat).take (i - 1).toNat) = some v.toNat, ⟨_, by omega, by omega, by omega, rfl, rfl⟩, ?_⟩
   rintro v i m _ ⟨i0, i1, v0, rfl, hv⟩
   obtain ⟨hv9, hend⟩ := main 1 (by omega) (by omega) (by omega) (by omega) hB v i i0 i1 v0 hv
   refine ⟨fun hi => ⟨fun hx => num_bad (f := 1) hB (by omega) i0 hi (.inl hx), fun hx => ⟨fun hy => num_bad (f := 1) hB (by omega) i0 hi (.inr hy), fun hy => ?_⟩⟩, fun hi => ?_⟩
   ·obtain ⟨v', e1, e2, e3⟩ := num_step (f := 1) (by omega) i0 hi (by omega) hv v0 hx hy
    rw [e1]
    exact ⟨fun _ => ⟨_, by omega, by omega, by omega, e2, rfl, e3⟩, fun h => by omega⟩
   ·have hw : IntKind.wrap .i64 (0 - v) = 0 - v := w64 (by omega) (by omega)
    rw [hw]
    exact ⟨fun _ => ⟨fun _ => hend hi _ (by rw [if_pos h45]), fun h => by omega⟩, fun h => by omega⟩
 ·have hB := body_len (s := s0) (by omega)
  rw [if_neg h45] at hB
  have hlen : ((bodyL (bytL s0)).length : Int) = qQz s0 := by rw [hB]; omega
  have hB' : bodyL (bytL s0) = (bytL s0).drop (0 : Int).toNat := hB
  refine ⟨fun h => by omega, fun h => ⟨fun h9 => qKv (num_long (by omega)), fun h9 => ?_⟩⟩
  refine ⟨fun v i m => 0 ≤ i ∧ i ≤ qQz s0 ∧ 0 ≤ v ∧ m = (qQz s0 - i).toNat ∧ Lib.decFrom 0 (((bytL s0).drop (0 : Int).toNat).take (i - 0).toNat) = some v.toNat, ⟨_, by omega, by omega, by omega, rfl, rfl⟩, ?_⟩
  rintro v i m _ ⟨i0, i1, v0, rfl, hv⟩
  obtain ⟨hv9, hend⟩ := main 0 (by omega) (by omega) (by omega) (by omega) hB' v i i0 i1 v0 hv
  refine ⟨fun hi => ⟨fun hx => num_bad hB' (by omega) i0 hi (.inl hx), fun hx => ⟨fun hy => num_bad hB' (by omega) i0 hi (.inr hy), fun hy => ?_⟩⟩, fun hi => ?_⟩
  ·obtain ⟨v', e1, e2, e3⟩ := num_step (f := 0) (by omega) i0 hi (by omega) hv v0 hx hy
   rw [e1]
   exact ⟨fun _ => ⟨_, by omega, by omega, by omega, e2, rfl, e3⟩, fun h => by omega⟩
  ·exact ⟨fun _ => ⟨fun _ => hend hi _ (by rw [if_neg h45]), fun h => by omega⟩, fun h => by omega⟩
 ·refine ⟨fun _ => qKv (num_no ?_), fun h => by omega⟩
  rw [body_nil (by omega)]
  rfl
theorem plain (i v ro p) : statR 2 rc tree ⟨i, fN, v, ro, p⟩ = P (i 0) := by kernel_rfl
theorem ran : ranR us (fun _ _ => .auto) rc 2 tree = true := by kernel_rfl
theorem fineT : fineR 2 rc tree = true := by kernel_rfl
theorem ok : RcOk (cxOf 2) rc := okR us_ok ran fineT okb fun i v ro p hρ hcap hpre => by rw [plain]; have q := hρ.hi; exact holds _
end CRNumber14
namespace CRFind06
def rc : Rc := ⟨28, [none], [.str], [], .one, [.int .i64 (.f 90 (.v 0) (.c 0) (.c 0))]⟩
theorem okb : rc.ok = true := by kernel_rfl
noncomputable def us : SMs := fun Γ ins n => smH (cxG n Γ ins) [] (smR (cxG n Γ ins) [])
theorem us_ok : SMsOk us := fun Γ ins n => qZb (tabsG n Γ ins) (qQs _) (qZw (tabsG n Γ ins) (qQt _))
def Q0 : E := (.cl 1000 0 4611686018427387904)
def Q1 : E := (tC (.c 100) (.c 0))
def Q2 : E := (tC (.c 115) (.c 0))
def Q3 : E := (tC (.c 98) Q2)
def Q4 : E := (tC (.c 114) (.c 0))
def Q5 : E := (tC (.c 111) Q4)
def Q6 : E := (tC (.c 108) (.c 0))
def Q7 : E := (tC (.c 116) (.c 0))
def Q8 : E := (tC (.c 108) Q7)
def Q9 : E := (tC (.c 113) (.c 0))
def Q10 : E := (tC (.c 101) Q9)
def Q11 : E := (tC (.c 110) (.c 0))
def Q12 : E := (tC (.c 104) (.c 0))
def Q13 : E := (tC (.c 105) (.c 0))
def Q14 : E := (tC (.c 119) (.c 0))
def Q15 : E := (tC (.c 112) (.c 0))
def Q16 : E := (tp Q0 (.c 1))
def tree : TT (List E) :=
 (.loop ⟨1000, [some (0, 4611686018427387904)], [(.c 0)], 1002⟩ (.br (tk Q0 (.c 43)) (.br (.f 20 (tR (tC (tC (.c 3) (tC (tC (.c 97) (tC (.c 100) Q1)) (.c 0))) (tC (tC (.c 3) (tC (tC (.c 115) (tC (.c 117) (tC (.c 98) (.c 0)))) (.c 0))) (tC (tC (.c 4) (tC (tC (.c 97) (tC (.c 100) (tC (.c 100) Q2))) (.c 0))) (tC (tC (.c 4) (tC (tC (.c 115) (tC (.c 117) Q3)) (.c 0))) (tC (tC (.c 3) (tC (tC (.c 97) (tC (.c 110) Q1)) (.c 0))) (tC (tC (.c 2) (tC Q5 (.c 0))) (tC (tC (.c 3) (tC (tC (.c 120) Q5) (.c 0))) (tC (tC (.c 3) (tC (tC (.c 98) (tC (.c 105) (tC (.c 99) (.c 0)))) (.c 0))) (tC (tC (.c 3) (tC (tC (.c 115) (tC (.c 104) Q6)) (.c 0))) (tC (tC (.c 3) (tC (tC (.c 115) (tC (.c 104) Q4)) (.c 0))) (tC (tC (.c 3) (tC (tC (.c 115) (tC (.c 97) Q4)) (.c 0))) (tC (tC (.c 3) (tC (tC (.c 114) (tC (.c 111)
 Q6)) (.c 0))) (tC (tC (.c 3) (tC (tC (.c 115) Q8) (.c 0))) (tC (tC (.c 4) (tC (tC (.c 115) (tC (.c 108) (tC (.c 116) (tC (.c 117) (.c 0))))) (.c 0))) (tC (tC (.c 3) (tC (tC (.c 115) Q10) (.c 0))) (tC (tC (.c 3) (tC (tC (.c 109) (tC (.c 105) Q11)) (.c 0))) (tC (tC (.c 3) (tC (tC (.c 109) (tC (.c 97) (tC (.c 120) (.c 0)))) (.c 0))) (tC (tC (.c 3) (tC (tC (.c 109) (tC (.c 117) Q6)) (.c 0))) (tC (tC (.c 4) (tC (tC (.c 109) (tC (.c 117) (tC (.c 108) Q12))) (.c 0))) (tC (tC (.c 4) (tC (tC (.c 109) (tC (.c 117) (tC (.c 108) Q9))) (.c 0))) (tC (tC (.c 4) (tC (tC (.c 109) (tC (.c 117) (tC (.c 108) Q4))) (.c 0))) (tC (tC (.c 3) (tC (tC (.c 100) (tC (.c 105) (tC (.c 118) (.c 0)))) (.c 0))) (tC (tC (.c 3) (tC (tC (.c 114) (tC (.c 101) (tC (.c 109) (.c 0)))) (.c 0))) (tC (tC (.c 3) (tC (tC (.c 99)
 (tC (.c 108) (tC (.c 122) (.c 0)))) (.c 0))) (tC (tC (.c 3) (tC (tC (.c 110) (tC (.c 101) (tC (.c 103) (.c 0)))) (.c 0))) (tC (tC (.c 3) (tC (tC (.c 97) Q3) (.c 0))) (tC (tC (.c 4) (tC (tC (.c 109) (tC (.c 97) (tC (.c 115) (tC (.c 107) (.c 0))))) (.c 0))) (tC (tC (.c 4) (tC (tC (.c 115) (tC (.c 105) (tC (.c 103) Q11))) (.c 0))) (tC (tC (.c 4) (tC (tC (.c 104) (tC (.c 97) (tC (.c 108) (tC (.c 102) (.c 0))))) (.c 0))) (tC (tC (.c 4) (tC (tC (.c 104) (tC (.c 105) (tC (.c 103) Q12))) (.c 0))) (tC (tC (.c 4) (tC (tC (.c 97) (tC (.c 100) (tC (.c 100) Q13))) (.c 0))) (tC (tC (.c 3) (tC (tC (.c 111) (tC (.c 114) Q13)) (.c 0))) (tC (tC (.c 3) (tC (tC (.c 108) (tC (.c 117) Q13)) (.c 0))) (tC (tC (.c 2) (tC (tC (.c 108) Q14) (.c 0))) (tC (tC (.c 2) (tC (tC (.c 115) Q14) (.c 0))) (tC (tC (.c 3) (tC
 (tC (.c 98) Q10) (.c 0))) (tC (tC (.c 3) (tC (tC (.c 98) (tC (.c 110) (tC (.c 101) (.c 0)))) (.c 0))) (tC (tC (.c 3) (tC (tC (.c 98) Q8) (.c 0))) (tC (tC (.c 4) (tC (tC (.c 106) (tC (.c 117) (tC (.c 109) Q15))) (.c 0))) (tC (tC (.c 3) (tC (tC (.c 106) (tC (.c 97) Q6)) (.c 0))) (tC (tC (.c 2) (tC (tC (.c 106) Q4) (.c 0))) (tC (tC (.c 3) (tC (tC (.c 110) (tC (.c 111) Q15)) (.c 0))) (tC (tC (.c 4) (tC (tC (.c 104) (tC (.c 97) Q8)) (.c 0))) (.c 0)))))))))))))))))))))))))))))))))))))))))))) Q0) (.v 0) (.c 0)) (.exit 0) (.br (tl Q16 (.c 4611686018427387904)) (.back [Q16]) (.bad 303))) (.exit 1)) (.br (te (.v 1002) (.c 0)) (.leaf [Q16]) (.leaf [(.c 0)])))
def P (a : Int) : Prop :=
 ∃ I1000 : Int → Nat → Prop, (∃ m, I1000 0 m) ∧ ∀ y0 : Int, ∀ m0, ((0 ≤ y0 ∧ y0 ≤ 4611686018427387904) ∧ True) → I1000 y0 m0 → (Pb (Pl y0 43) (Pb (seqZ (rdZ (kZ (kZ 3 (kZ (kZ 97 (kZ 100 (kZ 100 0))) 0)) (kZ (kZ 3 (kZ (kZ 115 (kZ 117 (kZ 98 0))) 0)) (kZ (kZ 4 (kZ (kZ 97 (kZ 100 (kZ 100 (kZ 115 0)))) 0)) (kZ (kZ 4 (kZ (kZ 115 (kZ 117 (kZ 98 (kZ 115 0)))) 0)) (kZ (kZ 3 (kZ (kZ 97 (kZ 110 (kZ 100 0))) 0)) (kZ (kZ 2 (kZ (kZ 111 (kZ 114 0)) 0)) (kZ (kZ 3 (kZ (kZ 120 (kZ 111 (kZ 114 0))) 0)) (kZ (kZ 3 (kZ (kZ 98 (kZ 105 (kZ 99 0))) 0)) (kZ (kZ 3 (kZ (kZ 115 (kZ 104 (kZ 108 0))) 0)) (kZ (kZ 3 (kZ (kZ 115 (kZ 104 (kZ 114 0))) 0)) (kZ (kZ 3 (kZ (kZ 115 (kZ 97 (kZ 114 0))) 0)) (kZ (kZ 3 (kZ (kZ 114 (kZ 111 (kZ 108 0))) 0)) (kZ (kZ 3 (kZ (kZ 115 (kZ 108 (kZ 116 0))) 0)) (kZ (kZ 4 (kZ (kZ 115 (kZ 108
 (kZ 116 (kZ 117 0)))) 0)) (kZ (kZ 3 (kZ (kZ 115 (kZ 101 (kZ 113 0))) 0)) (kZ (kZ 3 (kZ (kZ 109 (kZ 105 (kZ 110 0))) 0)) (kZ (kZ 3 (kZ (kZ 109 (kZ 97 (kZ 120 0))) 0)) (kZ (kZ 3 (kZ (kZ 109 (kZ 117 (kZ 108 0))) 0)) (kZ (kZ 4 (kZ (kZ 109 (kZ 117 (kZ 108 (kZ 104 0)))) 0)) (kZ (kZ 4 (kZ (kZ 109 (kZ 117 (kZ 108 (kZ 113 0)))) 0)) (kZ (kZ 4 (kZ (kZ 109 (kZ 117 (kZ 108 (kZ 114 0)))) 0)) (kZ (kZ 3 (kZ (kZ 100 (kZ 105 (kZ 118 0))) 0)) (kZ (kZ 3 (kZ (kZ 114 (kZ 101 (kZ 109 0))) 0)) (kZ (kZ 3 (kZ (kZ 99 (kZ 108 (kZ 122 0))) 0)) (kZ (kZ 3 (kZ (kZ 110 (kZ 101 (kZ 103 0))) 0)) (kZ (kZ 3 (kZ (kZ 97 (kZ 98 (kZ 115 0))) 0)) (kZ (kZ 4 (kZ (kZ 109 (kZ 97 (kZ 115 (kZ 107 0)))) 0)) (kZ (kZ 4 (kZ (kZ 115 (kZ 105 (kZ 103 (kZ 110 0)))) 0)) (kZ (kZ 4 (kZ (kZ 104 (kZ 97 (kZ 108 (kZ 102 0)))) 0)) (kZ (kZ 4 (kZ (kZ
 104 (kZ 105 (kZ 103 (kZ 104 0)))) 0)) (kZ (kZ 4 (kZ (kZ 97 (kZ 100 (kZ 100 (kZ 105 0)))) 0)) (kZ (kZ 3 (kZ (kZ 111 (kZ 114 (kZ 105 0))) 0)) (kZ (kZ 3 (kZ (kZ 108 (kZ 117 (kZ 105 0))) 0)) (kZ (kZ 2 (kZ (kZ 108 (kZ 119 0)) 0)) (kZ (kZ 2 (kZ (kZ 115 (kZ 119 0)) 0)) (kZ (kZ 3 (kZ (kZ 98 (kZ 101 (kZ 113 0))) 0)) (kZ (kZ 3 (kZ (kZ 98 (kZ 110 (kZ 101 0))) 0)) (kZ (kZ 3 (kZ (kZ 98 (kZ 108 (kZ 116 0))) 0)) (kZ (kZ 4 (kZ (kZ 106 (kZ 117 (kZ 109 (kZ 112 0)))) 0)) (kZ (kZ 3 (kZ (kZ 106 (kZ 97 (kZ 108 0))) 0)) (kZ (kZ 2 (kZ (kZ 106 (kZ 114 0)) 0)) (kZ (kZ 3 (kZ (kZ 110 (kZ 111 (kZ 112 0))) 0)) (kZ (kZ 4 (kZ (kZ 104 (kZ 97 (kZ 108 (kZ 116 0)))) 0)) 0))))))))))))))))))))))))))))))))))))))))))) y0) a) (Pb (Pe (0 : Int) 0) (((y0 + 1) : Int) = (opfZ a) ∧ True) ((0 : Int) = (opfZ a) ∧ True)) (Pm (PL (y0 +
 1) 4611686018427387904) (∃ m', m' < m0 ∧ I1000 (y0 + 1) m'))) (Pb (Pe (1 : Int) 0) (((y0 + 1) : Int) = (opfZ a) ∧ True) ((0 : Int) = (opfZ a) ∧ True)))
theorem holds (s0 : Int) : P s0 := by
 delta P Pb Pm PL Pl Pe kZ
 simp only [nrm, Int.reduceEq, Int.reduceNeg, reduceIte]
 refine ⟨fun y m => 0 ≤ y ∧ y ≤ 43 ∧ m = (43 - y).toNat ∧ opfZ s0 = opF (qZa.drop y.toNat) ((y.toNat : Int) + 1) s0, ⟨_, by omega, by omega, rfl, rfl⟩, ?_⟩
 rintro y m hb ⟨h0, h1, rfl, h2⟩
 refine And.intro (fun hlt => ?_) (fun hge => ?_)
 ·have hd := opF_drop (s := s0) (k := y.toNat) (by omega) _ rfl
  rw [show ((y.toNat : Nat) : Int) = y by omega] at hd h2
  refine And.intro (fun hz => ?_) (fun hz => ?_)
  ·rw [hd, if_pos (show seqZ (rdZ (chS (qZa.map cdS)) y) s0 ≠ 0 from hz)] at h2
   omega
  ·rw [hd, if_neg (show ¬ seqZ (rdZ (chS (qZa.map cdS)) y) s0 ≠ 0 from fun g => g hz)] at h2
   refine And.intro (fun _ => ⟨_, ?_, by omega, by omega, rfl, ?_⟩) (fun h => ?_)
   ·omega
   ·rw [show (y + 1).toNat = y.toNat + 1 by omega]; exact h2
   ·omega
 ·have e : y.toNat = 43 := by omega
  rw [e] at h2
  exact h2.symm
theorem plain (i v ro p) : statR 2 rc tree ⟨i, fN, v, ro, p⟩ = P (i 0) := by kernel_rfl
theorem ran : ranR us (fun _ _ => .auto) rc 2 tree = true := by kernel_rfl
theorem fineT : fineR 2 rc tree = true := by kernel_rfl
theorem ok : RcOk (cxOf 2) rc := okR us_ok ran fineT okb fun i v ro p hρ hcap hpre => by rw [plain]; have q := hρ.hi; exact holds _
end CRFind06
namespace CRPe
def rk : Rk := ⟨8, [(0, 0)], 2, [.str (.v 1)], [], [(.c 2), (.c 1), (.b .le .i64 (.f 21 (.v 1) (.c 0) (.c 0)) (.c 100000)), (.b .eq .i64 (.f 136 (.v 1) (.c 0) (.c 0)) (.c 0)), (.b .eq .i64 (.c 0) (.v 0))], .tup [.agg [.int .i64 (.v 1000000), .int .i64 (.v 1000001), .int .i64 (.v 1000002), .int .i64 (.v 1000003), .int .i64 (.v 1000004)], .int .i64 (.v 1000005)], [], [.num (.f 143 (.v 1) (.c 0) (.c 0)), .num (.f 143 (.v 1) (.c 1) (.c 0)), .num (.f 143 (.v 1) (.c 2) (.c 0)), .num (.f 143 (.v 1) (.c 3) (.c 0)), .num (.f 143 (.v 1) (.c 4) (.c 0)), .num (.f 144 (.v 1) (.c 0) (.c 0))], []⟩
theorem okk : rk.ok = true := by kernel_rfl
theorem okh : rk.rh.ok = true := by kernel_rfl
noncomputable def us : SMs := fun Γ ins n => smH (cxG n Γ ins) [] (smR (cxG n Γ ins) [CRChk13.rc, CRWords14.rc, CRNumber14.rc, CRFind06.rc])
theorem us_ok : SMsOk us := fun Γ ins n => qZb (tabsG n Γ ins) (qQs _) (qZw (tabsG n Γ ins) (qQw CRChk13.okb (rc_n CRChk13.ok) (qQw CRWords14.okb (rc_n CRWords14.ok) (qQw CRNumber14.okb (rc_n CRNumber14.ok) (qQw CRFind06.okb (rc_n CRFind06.ok) (qQt _))))))
def tree : TT (List E) :=
(.leaf [(.c 0), (.c 0), (.c 0), (.c 0), (.c 0), (.c 3)])
def P (o s : Int) : Prop :=
 (0 : Int) = (parZ s 0) ∧ (0 : Int) = (parZ s 1) ∧ (0 : Int) = (parZ s 2) ∧ (0 : Int) = (parZ s 3) ∧ (0 : Int) = (parZ s 4) ∧ (3 : Int) = (parE s) ∧ True
theorem holds (o s : Int) (l_o : 0 ≤ o) (u_o : o ≤ 0) (h_pre0 : (2 : Int) ≠ 0) (h_pre1 : (1 : Int) ≠ 0) (h_pre2 : qQx (decide ((qQz s)  ≤  100000)) ≠ 0) (h_pre3 : qQx ((wrdN s)  ==  0) ≠ 0) (h_pre4 : qQx (0  ==  o) ≠ 0) : P o s := by
 unfold P
 simp only [nrm, Int.reduceEq, Int.reduceNeg, reduceIte] at h_pre3 ⊢
 have hG := par_no (par_bad (s := s) (.inl h_pre3))
 unfold parF at hG
 simp only [if_true, if_false, Int.reduceEq] at hG
 obtain ⟨g1, g2, g3, g4, g5, g6⟩ := hG
 rw [g1, g2, g3, g4, g5, g6]
 exact ⟨rfl, rfl, rfl, rfl, rfl, rfl⟩
theorem plain (i v ro p) : statH 2 rk tree ⟨i, fN, v, ro, p⟩ = P (i 0) (i 1) := by kernel_rfl
theorem ran : ranH us (fun f _ => if [8].contains f then .unroll 400 else .auto) rk 2 tree = true := by kernel_rfl
theorem fineT : fineH 2 rk tree = true := by kernel_rfl
theorem ok : RhOk (cxOf 2) rk.rh := okH us_ok ran fineT (by kernel_rfl) okk fun i v ro p hρ hpre => by rw [plain]; have q := hρ.hi; exact holds _ _ (q 0 _ rfl).1 (q 0 _ rfl).2 (hpre _ (mg 0 rfl)) (hpre _ (mg 1 rfl)) (hpre _ (mg 2 rfl)) (hpre _ (mg 3 rfl)) (hpre _ (mg 4 rfl))
end CRPe
namespace CRPa
def rk : Rk := ⟨8, [(0, 23)], 2, [.str (.v 1)], [], [(.c 2), (.c 1), (.b .le .i64 (.f 21 (.v 1) (.c 0) (.c 0)) (.c 100000)), (.b .ne .i64 (.f 136 (.v 1) (.c 0) (.c 0)) (.c 0)), (.b .eq .i64 (.f 90 (.f 13 (.f 137 (.v 1) (.c 0) (.c 0)) (.c 0) (.c 0)) (.c 0) (.c 0)) (.v 0))], .tup [.agg [.int .i64 (.v 1000000), .int .i64 (.v 1000001), .int .i64 (.v 1000002), .int .i64 (.v 1000003), .int .i64 (.v 1000004)], .int .i64 (.v 1000005)], [], [.num (.f 143 (.v 1) (.c 0) (.c 0)), .num (.f 143 (.v 1) (.c 1) (.c 0)), .num (.f 143 (.v 1) (.c 2) (.c 0)), .num (.f 143 (.v 1) (.c 3) (.c 0)), .num (.f 143 (.v 1) (.c 4) (.c 0)), .num (.f 144 (.v 1) (.c 0) (.c 0))], []⟩
theorem okk : rk.ok = true := by kernel_rfl
theorem okh : rk.rh.ok = true := by kernel_rfl
noncomputable def us : SMs := fun Γ ins n => smH (cxG n Γ ins) [] (smR (cxG n Γ ins) [CRChk13.rc, CRWords14.rc, CRNumber14.rc, CRFind06.rc])
theorem us_ok : SMsOk us := fun Γ ins n => qZb (tabsG n Γ ins) (qQs _) (qZw (tabsG n Γ ins) (qQw CRChk13.okb (rc_n CRChk13.ok) (qQw CRWords14.okb (rc_n CRWords14.ok) (qQw CRNumber14.okb (rc_n CRNumber14.ok) (qQw CRFind06.okb (rc_n CRFind06.ok) (qQt _))))))
def Q0 : E := (.f 136 (.v 1) (.c 0) (.c 0))
def Q1 : E := (.f 137 (.v 1) (.c 0) (.c 0))
def Q2 : E := (tR Q1 (.c 1))
def Q3 : E := (.f 21 Q2 (.c 0) (.c 0))
def Q4 : E := (.b .psub .i64 Q3 (.c 1))
def Q5 : E := (tR Q2 (.c 1))
def Q6 : E := (.f 18 Q5 (.c 1) (.c 0))
def Q7 : E := (tC Q6 (.c 0))
def Q8 : E := (tC Q4 Q7)
def Q9 : E := (tR Q1 (.c 2))
def Q10 : E := (.f 21 Q9 (.c 0) (.c 0))
def Q11 : E := (.b .psub .i64 Q10 (.c 1))
def Q12 : E := (tR Q9 (.c 1))
def Q13 : E := (.f 18 Q12 (.c 1) (.c 0))
def Q14 : E := (tC Q13 (.c 0))
def Q15 : E := (tC Q11 Q14)
def Q16 : E := (tR Q1 (.c 3))
def Q17 : E := (.f 21 Q16 (.c 0) (.c 0))
def Q18 : E := (.b .psub .i64 Q17 (.c 1))
def Q19 : E := (tR Q16 (.c 1))
def Q20 : E := (.f 18 Q19 (.c 1) (.c 0))
def Q21 : E := (tC Q20 (.c 0))
def Q22 : E := (tC Q18 Q21)
def Q23 : E := (.cl 1000 (-999999999) 999999999)
def Q24 : E := (.cl 1002 (-999999999) 999999999)
def Q25 : E := (.cl 1004 (-999999999) 999999999)
def tree : TT (List E) :=
 (.br (tk (.c 0) Q0) (.br (te (.v 0) (.c 0)) (.leaf [(.c 0), (.c 0), (.c 0), (.c 0), (.c 0), (.c 3)]) (.br (tl (.c 1) (.v 0)) (.br (tl Q0 (.c 1)) (.leaf [(.c 0), (.c 0), (.c 0), (.c 0), (.c 0), (.c 3)]) (.br (tk (.c 0) Q3) (.br (tn (.f 22 Q2 (.c 0) (.c 0)) (.c 114)) (.leaf [(.c 0), (.c 0), (.c 0), (.c 0), (.c 0), (.c 3)]) (.br (tl (.c 1) Q3) (.new 1000 (.f 139 Q8 (.c 0) (.c 0)) (.new 1001 (.f 138 Q8 (.c 0) (.c 0)) (.br (.nt (.cl 1001 0 1)) (.leaf [(.c 0), (.c 0), (.c 0), (.c 0), (.c 0), (.c 3)]) (.br (tl Q0 (.c 2)) (.leaf [(.c 0), (.c 0), (.c 0), (.c 0), (.c 0), (.c 3)]) (.br (tk (.c 0) Q10) (.br (tn (.f 22 Q9 (.c 0) (.c 0)) (.c 114)) (.leaf [(.c 0), (.c 0), (.c 0), (.c 0), (.c 0), (.c 3)]) (.br (tl (.c 1) Q10) (.new 1002 (.f 139 Q15 (.c 0) (.c 0)) (.new 1003 (.f 138 Q15 (.c 0) (.c 0))
 (.br (.nt (.cl 1003 0 1)) (.leaf [(.c 0), (.c 0), (.c 0), (.c 0), (.c 0), (.c 3)]) (.br (tl Q0 (.c 3)) (.leaf [(.c 0), (.c 0), (.c 0), (.c 0), (.c 0), (.c 3)]) (.br (tk (.c 0) Q17) (.br (tn (.f 22 Q16 (.c 0) (.c 0)) (.c 114)) (.leaf [(.c 0), (.c 0), (.c 0), (.c 0), (.c 0), (.c 3)]) (.br (tl (.c 1) Q17) (.new 1004 (.f 139 Q22 (.c 0) (.c 0)) (.new 1005 (.f 138 Q22 (.c 0) (.c 0)) (.br (.nt (.cl 1005 0 1)) (.leaf [(.c 0), (.c 0), (.c 0), (.c 0), (.c 0), (.c 3)]) (.br (tn (.c 4) Q0) (.leaf [(.c 0), (.c 0), (.c 0), (.c 0), (.c 0), (.c 3)]) (.new 1006 (.f 141 (.v 0) Q23 (tC Q24 (tC Q25 (tC (.c 0) (.c 0))))) (.br (tn (.cl 1006 0 6) (.c 0)) (.leaf [(.c 0), (.c 0), (.c 0), (.c 0), (.c 0), (.cl 1006 0 6)]) (.leaf [(.v 0), Q23, Q24, Q25, (.c 0), (.c 0)]))))))) (.bad 200))) (.bad 200)))))) (.bad
 200))) (.bad 200)))))) (.bad 200))) (.bad 200))) (.bad 283))) (.bad 200))
def sL0 (b z0 z2 z4 z6 z10 : Int) : Prop := (z0 : Int) = (parZ b 0) ∧ (z2 : Int) = (parZ b 1) ∧ (z4 : Int) = (parZ b 2) ∧ (z6 : Int) = (parZ b 3) ∧ (0 : Int) = (parZ b 4) ∧ (z10 : Int) = (parE b) ∧ True
def P (a b : Int) : Prop :=
 (Pm (Pl 0 (wrdN b)) (Pb (Pe a 0) (sL0 b 0 0 0 0 3) (Pm (PL 1 a) (Pb (PL (wrdN b) 1) (sL0 b 0 0 0 0 3) (Pm (Pl 0 (qQz (rdZ (wrdC b) 1))) (Pb (Pd (qQy (rdZ (wrdC b) 1) 0) 114) (sL0 b 0 0 0 0 3) (Pm (PL 1 (qQz (rdZ (wrdC b) 1))) (Pn (numZ (kZ ((qQz (rdZ (wrdC b) 1)) - 1) (kZ (qQv (rdZ (rdZ (wrdC b) 1) 1) 1) 0))) (-999999999) 999999999 fun y0 => Pn (numK (kZ ((qQz (rdZ (wrdC b) 1)) - 1) (kZ (qQv (rdZ (rdZ (wrdC b) 1) 1) 1) 0))) 0 1 fun y1 => (Pb (Pe y1 0) (sL0 b 0 0 0 0 3) (Pb (PL (wrdN b) 2) (sL0 b 0 0 0 0 3) (Pm (Pl 0 (qQz (rdZ (wrdC b) 2))) (Pb (Pd (qQy (rdZ (wrdC b) 2) 0) 114) (sL0 b 0 0 0 0 3) (Pm (PL 1 (qQz (rdZ (wrdC b) 2))) (Pn (numZ (kZ ((qQz (rdZ (wrdC b) 2)) - 1) (kZ (qQv (rdZ (rdZ (wrdC b) 2) 1) 1) 0))) (-999999999) 999999999 fun y2 => Pn (numK (kZ
 ((qQz (rdZ (wrdC b) 2)) - 1) (kZ (qQv (rdZ (rdZ (wrdC b) 2) 1) 1) 0))) 0 1 fun y3 => (Pb (Pe y3 0) (sL0 b 0 0 0 0 3) (Pb (PL (wrdN b) 3) (sL0 b 0 0 0 0 3) (Pm (Pl 0 (qQz (rdZ (wrdC b) 3))) (Pb (Pd (qQy (rdZ (wrdC b) 3) 0) 114) (sL0 b 0 0 0 0 3) (Pm (PL 1 (qQz (rdZ (wrdC b) 3))) (Pn (numZ (kZ ((qQz (rdZ (wrdC b) 3)) - 1) (kZ (qQv (rdZ (rdZ (wrdC b) 3) 1) 1) 0))) (-999999999) 999999999 fun y4 => Pn (numK (kZ ((qQz (rdZ (wrdC b) 3)) - 1) (kZ (qQv (rdZ (rdZ (wrdC b) 3) 1) 1) 0))) 0 1 fun y5 => (Pb (Pe y5 0) (sL0 b 0 0 0 0 3) (Pb (Pd 4 (wrdN b)) (sL0 b 0 0 0 0 3) (Pn (cckZ a y0 (kZ y2 (kZ y4 (kZ 0 0)))) 0 6 fun y6 => (Pb (Pd y6 0) (sL0 b 0 0 0 0 y6) (sL0 b a y0 y2 y4 0)))))))))))))))))))))))))
theorem wrd_hd {s : Int} {k : Nat} : wrdN s ≤ k ∨ (1 ≤ qQz (rdZ (wrdC s) k) ∧ ((seqZ (qQq 1 (qQq (qQv (rdZ (rdZ (wrdC s) k) 1) 0) 0)) (qQq 1 (qQq (qQq 114 0) 0)) = 0 ∧ qQy (rdZ (wrdC s) k) 0 ≠ 114) ∨ (¬ seqZ (qQq 1 (qQq (qQv (rdZ (rdZ (wrdC s) k) 1) 0) 0)) (qQq 1 (qQq (qQq 114 0) 0)) = 0 ∧ qQy (rdZ (wrdC s) k) 0 = 114))) := by
 rcases Int.lt_or_le (k : Int) (wrdN s) with h | h
 ·have h1 := wrd_pos h
  have h2 := head_r h1
  have h3 := qXh (rdZ (wrdC s) k) 0
  refine .inr ⟨h1, ?_⟩
  have h4 : UInt8.ofNat (qQy (rdZ (wrdC s) k) 0).toNat = 114 ↔ qQy (rdZ (wrdC s) k) 0 = 114 := by
   constructor
   ·intro h
    have := congrArg UInt8.toNat h
    simp at this
    omega
   ·intro h
    rw [h]; rfl
  by_cases h5 : qQy (rdZ (wrdC s) k) 0 = 114
  ·exact .inr ⟨h2.2 (h4.2 h5), h5⟩
  ·refine .inl ⟨Classical.byContradiction fun g => h5 (h4.1 (h2.1 g)), h5⟩
 ·exact .inl h
set_option maxHeartbeats 40000000 in
theorem holds (o s : Int) (l_o : 0 ≤ o) (u_o : o ≤ 23) (h_pre0 : (2 : Int) ≠ 0) (h_pre1 : (1 : Int) ≠ 0) (h_pre2 : qQx (decide ((qQz s)  ≤  100000)) ≠ 0) (h_pre3 : qQx ((wrdN s)  !=  0) ≠ 0) (h_pre4 : qQx ((opfZ (rdZ (wrdC s) 0))  ==  o) ≠ 0) : P o s := by
 delta P sL0 Pb Pm Pn PL Pl Pe Pd kZ
 have hw0 := (qYe s).1
 have hbad := fun h => par_no (par_bad (s := s) h)
 have w1 : wrdN s ≤ 1 ∨ (1 ≤ qQz (rdZ (wrdC s) 1) ∧ ((seqZ (qQq 1 (qQq (qQv (rdZ (rdZ (wrdC s) 1) 1) 0) 0)) (qQq 1 (qQq (qQq 114 0) 0)) = 0 ∧ qQy (rdZ (wrdC s) 1) 0 ≠ 114) ∨ (¬ seqZ (qQq 1 (qQq (qQv (rdZ (rdZ (wrdC s) 1) 1) 0) 0)) (qQq 1 (qQq (qQq 114 0) 0)) = 0 ∧ qQy (rdZ (wrdC s) 1) 0 = 114))) := wrd_hd (s := s) (k := 1)
 have w2 : wrdN s ≤ 2 ∨ (1 ≤ qQz (rdZ (wrdC s) 2) ∧ ((seqZ (qQq 1 (qQq (qQv (rdZ (rdZ (wrdC s) 2) 1) 0) 0)) (qQq 1 (qQq (qQq 114 0) 0)) = 0 ∧ qQy (rdZ (wrdC s) 2) 0 ≠ 114) ∨ (¬ seqZ (qQq 1 (qQq (qQv (rdZ (rdZ (wrdC s) 2) 1) 0) 0)) (qQq 1 (qQq (qQq 114 0) 0)) = 0 ∧ qQy (rdZ (wrdC s) 2) 0 = 114))) := wrd_hd (s := s) (k := 2)
 have w3 : wrdN s ≤ 3 ∨ (1 ≤ qQz (rdZ (wrdC s) 3) ∧ ((seqZ (qQq 1 (qQq (qQv (rdZ (rdZ (wrdC s) 3) 1) 0) 0)) (qQq 1 (qQq (qQq 114 0) 0)) = 0 ∧ qQy (rdZ (wrdC s) 3) 0 ≠ 114) ∨ (¬ seqZ (qQq 1 (qQq (qQv (rdZ (rdZ (wrdC s) 3) 1) 0) 0)) (qQq 1 (qQq (qQq 114 0) 0)) = 0 ∧ qQy (rdZ (wrdC s) 3) 0 = 114))) := wrd_hd (s := s) (k := 3)
 clear h_pre0 h_pre1
 simp only [nrm, Int.reduceEq, Int.reduceNeg, reduceIte, qYc, Int.reduceAdd, slen_0, qZm] at h_pre2 h_pre3 h_pre4 ⊢
 have ho := h_pre4
 clear h_pre4
 have hs : o = 0 ∨ (1 ≤ o ∧ o ≤ 23) := by omega
 rcases hs with hr | hr
 ·have hbad := hbad (.inr (ho.trans hr))
  unfold parF at hbad
  simp only [if_true, if_false, Int.reduceEq] at hbad
  clear w1 w2 w3
  obtain ⟨g1, g2, g3, g4, g5, g6⟩ := hbad
  rw [g1, g2, g3, g4, g5, g6]
  clear g1 g2 g3 g4 g5 g6
  repeat' (first | (constructor <;> intro _) | (intro _ hy _; subst hy))
  all_goals first | (exact ⟨rfl, rfl, rfl, rfl, rfl, rfl⟩) | (exfalso; omega) | omega
 ·obtain ⟨hY, hN⟩ := parF_0 ho hr (by omega)
  clear hbad
  rcases Classical.em _ with hC | hC
  rotate_left
  ·have hG := hN hC
   clear hY hN
   unfold parF at hG
   simp only [Int.reduceEq, if_false] at hG
   obtain ⟨g1, g2, g3, g4, g5, g6⟩ := hG
   rw [g1, g2, g3, g4, g5, g6]
   clear g1 g2 g3 g4 g5 g6
   repeat' (first | (constructor <;> intro _) | (intro _ hy _; subst hy))
   all_goals first
    | (exact ⟨rfl, rfl, rfl, rfl, rfl, rfl⟩)
    | (exfalso; omega)
  ·have hG := hY hC
   clear hY hN
   unfold parF at hG
   obtain ⟨g1, g2, g3, g4, g5, g6⟩ := hG
   rw [g1, g2, g3, g4, g5, g6]
   clear g1 g2 g3 g4 g5 g6
   repeat' (first | (constructor <;> intro _) | (intro _ hy _; subst hy))
   all_goals first
    | (exfalso; omega)
    | omega
theorem plain (i v ro p) : statH 2 rk tree ⟨i, fN, v, ro, p⟩ = P (i 0) (i 1) := by kernel_rfl
theorem ran : ranH us (fun f _ => if [8].contains f then .unroll 400 else .auto) rk 2 tree = true := by kernel_rfl
theorem fineT : fineH 2 rk tree = true := by kernel_rfl
theorem ok : RhOk (cxOf 2) rk.rh := okH us_ok ran fineT (by kernel_rfl) okk fun i v ro p hρ hpre => by rw [plain]; have q := hρ.hi; exact holds _ _ (q 0 _ rfl).1 (q 0 _ rfl).2 (hpre _ (mg 0 rfl)) (hpre _ (mg 1 rfl)) (hpre _ (mg 2 rfl)) (hpre _ (mg 3 rfl)) (hpre _ (mg 4 rfl))
end CRPa
end Go.Proofs.YtppiabilakeadaaGreatDoor
