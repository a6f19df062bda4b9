/-
  What astrolaberef02.Rol answers, as numbers of what it is handed: its run by the engine, and the plain statement behind it. No condition.
-/
import Derived.Test.YtbfgkimoobkpmaaGreatDoorGab
import Derived.Test.YtbfgkimoobkpmaaGreatDoorCRBits
import Derived.Test.YtbfgkimoobkpmaaGreatDoorCROf
import Derived.Test.YtbfgkimoobkpmaaGreatDoorCRBy
import Derived.Test.YtbfgkimoobkpmaaGreatDoorGmD
namespace Go.Proofs.YtbfgkimoobkpmaaGreatDoor.CRRol
open Go.Eng Go.RowKit
set_option linter.unusedVariables false
set_option linter.unusedSimpArgs false
set_option maxRecDepth 100000
def rc : Rc := ⟨98, [none, none], [.int .i32, .int .i32], [], .one, [.int .i32 (.f 63 (.c 12) (.v 0) (.v 1))]⟩
theorem okb : rc.ok = true := by kernel_rfl
noncomputable def us : SMs := fun Γ ins n => smH (cxG n Γ ins) [] (smR (cxG n Γ ins) [CRBits.rc, CROf.rc, CRBy.rc])
theorem us_ok : SMsOk us := fun Γ ins n => smH_ok (tabsG n Γ ins) (rhs_nil _) (smR_ok (tabsG n Γ ins) (rcs_cons CRBits.okb (rc_n CRBits.ok) (rcs_cons CROf.okb (rc_n CROf.ok) (rcs_cons CRBy.okb (rc_n CRBy.ok) (rcs_nil _)))))
def q0 : E := (.cl 1000 0 4611686018427387904)
def q1 : E := (tp q0 (.c 1))
def tree : TT (List E) :=
 (.loop ⟨1000, [some (0, 4611686018427387904), none], [(.c 0), (tC (.c 0) (tC (.c 0) (tC (.c 0) (tC (.c 0) (tC (.c 0) (tC (.c 0) (tC (.c 0) (tC (.c 0) (tC (.c 0) (tC (.c 0) (tC (.c 0) (tC (.c 0) (tC (.c 0) (tC (.c 0) (tC (.c 0) (tC (.c 0) (tC (.c 0) (tC (.c 0) (tC (.c 0) (tC (.c 0) (tC (.c 0) (tC (.c 0) (tC (.c 0) (tC (.c 0) (tC (.c 0) (tC (.c 0) (tC (.c 0) (tC (.c 0) (tC (.c 0) (tC (.c 0) (tC (.c 0) (tC (.c 0) (.c 0)))))))))))))))))))))))))))))))))], 1005⟩ (.br (tk q0 (.c 32)) (.new 1003 (.b .rem .i64 (tp q0 (.f 79 (.v 1) (.c 0) (.c 0))) (.c 32)) (.new 1004 (t6 (tR (tC (.f 2 (.v 0) (.c 0) (.c 0)) (tC (.f 2 (.v 0) (.c 1) (.c 0)) (tC (.f 2 (.v 0) (.c 2) (.c 0)) (tC (.f 2 (.v 0) (.c 3) (.c 0)) (tC (.f 2 (.v 0) (.c 4) (.c 0)) (tC (.f 2 (.v 0) (.c 5) (.c 0)) (tC (.f 2 (.v 0) (.c 6) (.c 0))
 (tC (.f 2 (.v 0) (.c 7) (.c 0)) (tC (.f 2 (.v 0) (.c 8) (.c 0)) (tC (.f 2 (.v 0) (.c 9) (.c 0)) (tC (.f 2 (.v 0) (.c 10) (.c 0)) (tC (.f 2 (.v 0) (.c 11) (.c 0)) (tC (.f 2 (.v 0) (.c 12) (.c 0)) (tC (.f 2 (.v 0) (.c 13) (.c 0)) (tC (.f 2 (.v 0) (.c 14) (.c 0)) (tC (.f 2 (.v 0) (.c 15) (.c 0)) (tC (.f 2 (.v 0) (.c 16) (.c 0)) (tC (.f 2 (.v 0) (.c 17) (.c 0)) (tC (.f 2 (.v 0) (.c 18) (.c 0)) (tC (.f 2 (.v 0) (.c 19) (.c 0)) (tC (.f 2 (.v 0) (.c 20) (.c 0)) (tC (.f 2 (.v 0) (.c 21) (.c 0)) (tC (.f 2 (.v 0) (.c 22) (.c 0)) (tC (.f 2 (.v 0) (.c 23) (.c 0)) (tC (.f 2 (.v 0) (.c 24) (.c 0)) (tC (.f 2 (.v 0) (.c 25) (.c 0)) (tC (.f 2 (.v 0) (.c 26) (.c 0)) (tC (.f 2 (.v 0) (.c 27) (.c 0)) (tC (.f 2 (.v 0) (.c 28) (.c 0)) (tC (.f 2 (.v 0) (.c 29) (.c 0)) (tC (.f 2 (.v 0) (.c 30) (.c 0)) (tC (.f 2
 (.v 0) (.c 31) (.c 0)) (.c 0))))))))))))))))))))))))))))))))) q0)) (.br (tl q1 (.c 4611686018427387904)) (.back [q1, (.f 14 (.v 1001) (.cl 1003 0 31) (.cl 1004 (-9223372036854775808) 9223372036854775807))]) (.bad 303)))) (.exit 0)) (.new 1007 (.f 77 (t6 (tR (.v 1001) (.c 0))) (t6 (tR (.v 1001) (.c 1))) (tC (t6 (tR (.v 1001) (.c 2))) (tC (t6 (tR (.v 1001) (.c 3))) (tC (t6 (tR (.v 1001) (.c 4))) (tC (t6 (tR (.v 1001) (.c 5))) (tC (t6 (tR (.v 1001) (.c 6))) (tC (t6 (tR (.v 1001) (.c 7))) (tC (t6 (tR (.v 1001) (.c 8))) (tC (t6 (tR (.v 1001) (.c 9))) (tC (t6 (tR (.v 1001) (.c 10))) (tC (t6 (tR (.v 1001) (.c 11))) (tC (t6 (tR (.v 1001) (.c 12))) (tC (t6 (tR (.v 1001) (.c 13))) (tC (t6 (tR (.v 1001) (.c 14))) (tC (t6 (tR (.v 1001) (.c 15))) (tC (t6 (tR (.v 1001) (.c 16))) (tC (t6 (tR (.v 1001)
 (.c 17))) (tC (t6 (tR (.v 1001) (.c 18))) (tC (t6 (tR (.v 1001) (.c 19))) (tC (t6 (tR (.v 1001) (.c 20))) (tC (t6 (tR (.v 1001) (.c 21))) (tC (t6 (tR (.v 1001) (.c 22))) (tC (t6 (tR (.v 1001) (.c 23))) (tC (t6 (tR (.v 1001) (.c 24))) (tC (t6 (tR (.v 1001) (.c 25))) (tC (t6 (tR (.v 1001) (.c 26))) (tC (t6 (tR (.v 1001) (.c 27))) (tC (t6 (tR (.v 1001) (.c 28))) (tC (t6 (tR (.v 1001) (.c 29))) (tC (t6 (tR (.v 1001) (.c 30))) (tC (t6 (tR (.v 1001) (.c 31))) (.c 0)))))))))))))))))))))))))))))))) (.leaf [(.cl 1007 (-2147483648) 2147483647)])))


def P (a b : Int) : Prop :=
 ∃ I1000 : Int → Int → Nat → Prop, (∃ m, I1000 0 (consZ 0 (consZ 0 (consZ 0 (consZ 0 (consZ 0 (consZ 0 (consZ 0 (consZ 0 (consZ 0 (consZ 0 (consZ 0 (consZ 0 (consZ 0 (consZ 0 (consZ 0 (consZ 0 (consZ 0 (consZ 0 (consZ 0 (consZ 0 (consZ 0 (consZ 0 (consZ 0 (consZ 0 (consZ 0 (consZ 0 (consZ 0 (consZ 0 (consZ 0 (consZ 0 (consZ 0 (consZ 0 0)))))))))))))))))))))))))))))))) m) ∧ ∀ y0 y1 : Int, ∀ m0, ((0 ≤ y0 ∧ y0 ≤ 4611686018427387904) ∧ True ∧ True) → I1000 y0 y1 m0 → (Pb (Pl y0 32) (Pn (BO.ev .rem .i64 (y0 + (md32 b)) 32) 0 31 fun y3 => Pn (W6 (rdZ (consZ (bitZ a 0) (consZ (bitZ a 1) (consZ (bitZ a 2) (consZ (bitZ a 3) (consZ (bitZ a 4) (consZ (bitZ a 5) (consZ (bitZ a 6) (consZ (bitZ a 7) (consZ (bitZ a 8) (consZ (bitZ a 9) (consZ (bitZ a 10) (consZ (bitZ a 11) (consZ (bitZ a 12) (consZ
 (bitZ a 13) (consZ (bitZ a 14) (consZ (bitZ a 15) (consZ (bitZ a 16) (consZ (bitZ a 17) (consZ (bitZ a 18) (consZ (bitZ a 19) (consZ (bitZ a 20) (consZ (bitZ a 21) (consZ (bitZ a 22) (consZ (bitZ a 23) (consZ (bitZ a 24) (consZ (bitZ a 25) (consZ (bitZ a 26) (consZ (bitZ a 27) (consZ (bitZ a 28) (consZ (bitZ a 29) (consZ (bitZ a 30) (consZ (bitZ a 31) 0)))))))))))))))))))))))))))))))) y0)) (-9223372036854775808) 9223372036854775807 fun y4 => (Pm (PL (y0 + 1) 4611686018427387904) (∃ m', m' < m0 ∧ I1000 (y0 + 1) (updZ y1 y3 y4) m'))) (Pn (ofZ (W6 (rdZ y1 0)) (W6 (rdZ y1 1)) (consZ (W6 (rdZ y1 2)) (consZ (W6 (rdZ y1 3)) (consZ (W6 (rdZ y1 4)) (consZ (W6 (rdZ y1 5)) (consZ (W6 (rdZ y1 6)) (consZ (W6 (rdZ y1 7)) (consZ (W6 (rdZ y1 8)) (consZ (W6 (rdZ y1 9)) (consZ (W6 (rdZ y1 10)) (consZ (W6
 (rdZ y1 11)) (consZ (W6 (rdZ y1 12)) (consZ (W6 (rdZ y1 13)) (consZ (W6 (rdZ y1 14)) (consZ (W6 (rdZ y1 15)) (consZ (W6 (rdZ y1 16)) (consZ (W6 (rdZ y1 17)) (consZ (W6 (rdZ y1 18)) (consZ (W6 (rdZ y1 19)) (consZ (W6 (rdZ y1 20)) (consZ (W6 (rdZ y1 21)) (consZ (W6 (rdZ y1 22)) (consZ (W6 (rdZ y1 23)) (consZ (W6 (rdZ y1 24)) (consZ (W6 (rdZ y1 25)) (consZ (W6 (rdZ y1 26)) (consZ (W6 (rdZ y1 27)) (consZ (W6 (rdZ y1 28)) (consZ (W6 (rdZ y1 29)) (consZ (W6 (rdZ y1 30)) (consZ (W6 (rdZ y1 31)) 0))))))))))))))))))))))))))))))) (-2147483648) 2147483647 fun y7 => ((y7 : Int) = (aluV 12 a b) ∧ True)))

theorem bits_rd (x : Int) (k : Int) (h0 : 0 ≤ k) (h : k < 32) : rdZ (consZ (bitZ x 0) (consZ (bitZ x 1) (consZ (bitZ x 2) (consZ (bitZ x 3) (consZ (bitZ x 4) (consZ (bitZ x 5) (consZ (bitZ x 6) (consZ (bitZ x 7) (consZ (bitZ x 8) (consZ (bitZ x 9) (consZ (bitZ x 10) (consZ (bitZ x 11) (consZ (bitZ x 12) (consZ (bitZ x 13) (consZ (bitZ x 14) (consZ (bitZ x 15) (consZ (bitZ x 16) (consZ (bitZ x 17) (consZ (bitZ x 18) (consZ (bitZ x 19) (consZ (bitZ x 20) (consZ (bitZ x 21) (consZ (bitZ x 22) (consZ (bitZ x 23) (consZ (bitZ x 24) (consZ (bitZ x 25) (consZ (bitZ x 26) (consZ (bitZ x 27) (consZ (bitZ x 28) (consZ (bitZ x 29) (consZ (bitZ x 30) (consZ (bitZ x 31) 0)))))))))))))))))))))))))))))))) k = bt (b32 x) k.toNat := by
  have e : (consZ (bitZ x 0) (consZ (bitZ x 1) (consZ (bitZ x 2) (consZ (bitZ x 3) (consZ (bitZ x 4) (consZ (bitZ x 5) (consZ (bitZ x 6) (consZ (bitZ x 7) (consZ (bitZ x 8) (consZ (bitZ x 9) (consZ (bitZ x 10) (consZ (bitZ x 11) (consZ (bitZ x 12) (consZ (bitZ x 13) (consZ (bitZ x 14) (consZ (bitZ x 15) (consZ (bitZ x 16) (consZ (bitZ x 17) (consZ (bitZ x 18) (consZ (bitZ x 19) (consZ (bitZ x 20) (consZ (bitZ x 21) (consZ (bitZ x 22) (consZ (bitZ x 23) (consZ (bitZ x 24) (consZ (bitZ x 25) (consZ (bitZ x 26) (consZ (bitZ x 27) (consZ (bitZ x 28) (consZ (bitZ x 29) (consZ (bitZ x 30) (consZ (bitZ x 31) 0)))))))))))))))))))))))))))))))) = chn ((List.range 32).map fun i : Nat => bitZ x i) := rfl
  rw [e, show k = ((k.toNat : Nat) : Int) by omega, rd_chn]
  have hr : k.toNat < 32 := by omega
  simp only [List.getD_eq_getElem?_getD, List.getElem?_map, List.getElem?_range hr, Option.map_some, Option.getD_some, bitZ_bt, Int.toNat_natCast]
theorem zero_rd (k : Nat) : rdZ (consZ 0 (consZ 0 (consZ 0 (consZ 0 (consZ 0 (consZ 0 (consZ 0 (consZ 0 (consZ 0 (consZ 0 (consZ 0 (consZ 0 (consZ 0 (consZ 0 (consZ 0 (consZ 0 (consZ 0 (consZ 0 (consZ 0 (consZ 0 (consZ 0 (consZ 0 (consZ 0 (consZ 0 (consZ 0 (consZ 0 (consZ 0 (consZ 0 (consZ 0 (consZ 0 (consZ 0 (consZ 0 0)))))))))))))))))))))))))))))))) k = 0 := by
  have e : (consZ 0 (consZ 0 (consZ 0 (consZ 0 (consZ 0 (consZ 0 (consZ 0 (consZ 0 (consZ 0 (consZ 0 (consZ 0 (consZ 0 (consZ 0 (consZ 0 (consZ 0 (consZ 0 (consZ 0 (consZ 0 (consZ 0 (consZ 0 (consZ 0 (consZ 0 (consZ 0 (consZ 0 (consZ 0 (consZ 0 (consZ 0 (consZ 0 (consZ 0 (consZ 0 (consZ 0 (consZ 0 0)))))))))))))))))))))))))))))))) = chn (List.replicate 32 0) := rfl
  rw [e, rd_chn]
  generalize 32 = n
  simp only [List.getD_eq_getElem?_getD, List.getElem?_replicate]
  split <;> rfl
theorem bt_bd (Z : BitVec 32) (i : Nat) : 0 ≤ bt Z i ∧ bt Z i ≤ 1 := by unfold bt; split <;> omega
theorem bt_w (Z : BitVec 32) (i : Nat) : IntKind.wrap .i64 (bt Z i) = bt Z i := w64 (by have := bt_bd Z i; omega) (by have := bt_bd Z i; omega)
set_option maxRecDepth 100000 in
set_option maxHeartbeats 4000000 in
theorem holds (p0 p1 : Int) (l_p0 : -2147483648 ≤ p0) (u_p0 : p0 ≤ 2147483647) (l_p1 : -2147483648 ≤ p1) (u_p1 : p1 ≤ 2147483647) : P p0 p1 := by
  delta P Pb Pm Pn PL Pl W6
  simp only [b01_eq, decide_eq_true_eq, decide_eq_false_iff_not, beq_iff_eq, beq_eq_false_iff_ne, bne_iff_ne, bne_eq_false_iff_eq, Int.not_le, Int.not_lt, true_and, and_true, iteZ_ne, ne_eq, Bool.not_eq_false, Bool.not_eq_true, not_true_eq_false, not_false_eq_true, Decidable.not_not, forall_const, false_implies, true_iff, iff_true, false_iff, iff_false, Int.reduceEq, Int.reduceNeg, eq_self, if_true, if_false, reduceIte, ob_le, ob_lt, ob_p, ob_n]
  have hn : 0 ≤ md32 p1 ∧ md32 p1 < 32 := by unfold md32; omega
  refine ⟨fun i o m => 0 ≤ i ∧ i ≤ 32 ∧ (∀ k : Nat, (k : Int) < i → IntKind.wrap .i64 (rdZ o ((k + md32 p1) % 32)) = bt (b32 p0) k) ∧ m = (32 - i).toNat, ⟨_, by omega, by omega, fun k hk => by omega, rfl⟩, fun i o m hb hI => ?_⟩
  obtain ⟨i0, i1, ho, rfl⟩ := hI
  have wm : BO.ev .rem .i64 (i + md32 p1) 32 = (i + md32 p1) % 32 := rem_pos (by omega)
  simp only [wm]
  refine ⟨fun h1 => ?_, fun h1 => ?_⟩
  · rintro _ rfl _ _ rfl _
    refine ⟨by omega, _, ?_, by omega, by omega, fun k hk => ?_, rfl⟩
    · omega
    · rw [bits_rd _ _ (by omega) (by omega), bt_w, rdZ_upd]
      by_cases e : (k : Int) = i
      · rw [if_pos (by omega), bt_w]; congr 1; omega
      · rw [if_neg (by omega), ho k (by omega)]
  · rintro _ rfl _
    refine Eq.trans (of_word (b32 p0 <<< (p1 % 32).toNat ||| b32 p0 >>> (32 - (p1 % 32).toNat)) (fun k : Nat => IntKind.wrap .i64 (rdZ o k)) fun j hj => ?_) (alu12 l_p0 u_p0 l_p1 u_p1).symm
    show IntKind.wrap .i64 (rdZ o j) = _
    have hq := ho (((j : Int) - md32 p1) % 32).toNat (by omega)
    have e : ((((((j : Int) - md32 p1) % 32).toNat : Nat) : Int) + md32 p1) % 32 = j := by omega
    rw [e] at hq
    rw [hq]
    unfold bt md32 at *
    simp only [BitVec.getLsbD_or, BitVec.getLsbD_shiftLeft, BitVec.getLsbD_ushiftRight]
    by_cases g : p1 % 32 ≤ j
    · have e2 : ((j : Int) - p1 % 32) % 32 = j - p1 % 32 := by omega
      have e3 : ((j : Int) - p1 % 32).toNat = j - (p1 % 32).toNat := by omega
      rw [e2, e3, BitVec.getLsbD_of_ge _ (32 - (p1 % 32).toNat + j) (by omega)]
      simp [hj, show ¬ j < (p1 % 32).toNat by omega]
    · have e2 : ((j : Int) - p1 % 32) % 32 = j - p1 % 32 + 32 := by omega
      have e3 : ((j : Int) - p1 % 32 + 32).toNat = 32 - (p1 % 32).toNat + j := by omega
      rw [e2, e3]
      simp [show j < (p1 % 32).toNat by omega]

theorem plain (i v ro p) : statR 2 rc tree ⟨i, fN, v, ro, p⟩ = P (i 0) (i 1) := by kernel_rfl
theorem ran : ranR us (fun _ _ => .auto) rc 2 tree = true := by kernel_rfl
theorem fineT : fineR 2 rc tree = true := by kernel_rfl
theorem ok : RcOk (cxOf 2) rc := okR us_ok ran fineT okb fun i v ro p hρ hcap hpre => by rw [plain]; exact holds (i 0) (i 1) (hρ.hi 0 _ rfl).1 (hρ.hi 0 _ rfl).2 (hρ.hi 1 _ rfl).1 (hρ.hi 1 _ rfl).2
end Go.Proofs.YtbfgkimoobkpmaaGreatDoor.CRRol
