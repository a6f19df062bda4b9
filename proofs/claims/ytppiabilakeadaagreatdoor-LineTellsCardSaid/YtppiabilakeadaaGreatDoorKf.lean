/-
  What functions of the program answer, as numbers of what they are handed: their runs by the engine, the plain statements behind them. No condition.
-/
import Derived.Test.YtppiabilakeadaaGreatDoorKe
import Derived.Test.YtppiabilakeadaaGreatDoorGab
import Derived.Test.YtppiabilakeadaaGreatDoorGp2
set_option linter.unusedVariables false
set_option linter.unusedSimpArgs false
set_option maxRecDepth 100000
namespace Go.Proofs.YtppiabilakeadaaGreatDoor
open Go.Eng Go.RowKit
namespace CRDg2
def rc : Rc := ⟨23, [none], [.num .i64 0 99], [], .one, [.str (.f 129 (.v 0) (.c 0) (.c 0))]⟩
theorem okb : rc.ok = true := by kernel_rfl
noncomputable def us : SMs := fun Γ ins n => smBut 23 (smH (cxG n Γ ins) [] (smR (cxG n Γ ins) [CRDg1.rc]))
theorem us_ok : SMsOk us := fun Γ ins n => qKf (qZb (tabsG n Γ ins) (qQs _) (qZw (tabsG n Γ ins) (qQw CRDg1.okb (rc_n CRDg1.ok) (qQt _))))
def tree : TT (List E) :=
(.br (.b .lt .i64 (.v 0) (.c 10))
 (.br (.b .le .i64 (.v 0) (.b .padd .i64 (.v 0) (.c 1)))
 (.br (.b .le .i64 (.b .padd .i64 (.v 0) (.c 1)) (.f 21 (.f 11 (.c 10) (.f 11 (.f 11 (.c 48) (.f 11 (.c 49) (.f 11 (.c 50) (.f 11 (.c 51) (.f 11 (.c 52) (.f 11 (.c 53) (.f 11 (.c 54) (.f 11 (.c 55) (.f 11 (.c 56) (.f 11 (.c 57) (.c 0) (.c 0)) (.c 0)) (.c 0)) (.c 0)) (.c 0)) (.c 0)) (.c 0)) (.c 0)) (.c 0)) (.c 0)) (.c 0) (.c 0)) (.c 0)) (.c 0) (.c 0)))
 (.leaf [(.f 11 (.b .psub .i64 (.b .padd .i64 (.v 0) (.c 1)) (.v 0)) (.f 11 (.f 18 (.f 11 (.c 48) (.f 11 (.c 49) (.f 11 (.c 50) (.f 11 (.c 51) (.f 11 (.c 52) (.f 11 (.c 53) (.f 11 (.c 54) (.f 11 (.c 55) (.f 11 (.c 56) (.f 11 (.c 57) (.c 0) (.c 0)) (.c 0)) (.c 0)) (.c 0)) (.c 0)) (.c 0)) (.c 0)) (.c 0)) (.c 0)) (.c 0)) (.v 0) (.c 0)) (.c 0) (.c 0)) (.c 0))])
 (.bad 200))
 (.bad 200))
 (.br (.b .le .i64 (.b .quo .i64 (.v 0) (.c 10)) (.c 9))
 (.br (.b .le .i64 (.b .padd .i64 (.f 21 (.f 129 (.b .quo .i64 (.v 0) (.c 10)) (.c 0) (.c 0)) (.c 0) (.c 0)) (.f 21 (.f 129 (.b .rem .i64 (.v 0) (.c 10)) (.c 0) (.c 0)) (.c 0) (.c 0))) (.c 1000000))
 (.leaf [(.f 23 (.f 129 (.b .quo .i64 (.v 0) (.c 10)) (.c 0) (.c 0)) (.f 129 (.b .rem .i64 (.v 0) (.c 10)) (.c 0) (.c 0)) (.c 0))])
 (.bad 200))
 (.bad 200)))
def P (p0 : Int) : Prop :=
 (((qQx (decide (p0 < 10))) ≠ 0 →
  (((qQx (decide (p0 ≤ (p0 + 1)))) ≠ 0 →
   (((qQx (decide ((p0 + 1) ≤ (qQz (qQq 10 (qQq (qQq 48 (qQq 49 (qQq 50 (qQq 51 (qQq 52 (qQq 53 (qQq 54 (qQq 55 (qQq 56 (qQq 57 0)))))))))) 0)))))) ≠ 0 →
    qQj (qQq ((p0 + 1) - p0) (qQq (qQv (qQq 48 (qQq 49 (qQq 50 (qQq 51 (qQq 52 (qQq 53 (qQq 54 (qQq 55 (qQq 56 (qQq 57 0)))))))))) p0) 0)) = qQj (itoZ p0) ∧ True) ∧ ((qQx (decide ((p0 + 1) ≤ (qQz (qQq 10 (qQq (qQq 48 (qQq 49 (qQq 50 (qQq 51 (qQq 52 (qQq 53 (qQq 54 (qQq 55 (qQq 56 (qQq 57 0)))))))))) 0)))))) = 0 →
    False))) ∧ ((qQx (decide (p0 ≤ (p0 + 1)))) = 0 →
   False))) ∧ ((qQx (decide (p0 < 10))) = 0 →
  (((qQx (decide ((BO.ev .quo .i64 p0 10) ≤ 9))) ≠ 0 →
   (((qQx (decide (((qQz (itoZ (BO.ev .quo .i64 p0 10))) + (qQz (itoZ (BO.ev .rem .i64 p0 10)))) ≤ 1000000))) ≠ 0 →
    qQj (catZ (itoZ (BO.ev .quo .i64 p0 10)) (itoZ (BO.ev .rem .i64 p0 10))) = qQj (itoZ p0) ∧ True) ∧ ((qQx (decide (((qQz (itoZ (BO.ev .quo .i64 p0 10))) + (qQz (itoZ (BO.ev .rem .i64 p0 10)))) ≤ 1000000))) = 0 →
    False))) ∧ ((qQx (decide ((BO.ev .quo .i64 p0 10) ≤ 9))) = 0 →
   False))))
theorem holds (p0 : Int) (l_p0 : 0 ≤ p0) (u_p0 : p0 ≤ 99) : P p0 := by
 unfold P
 have e1 : BO.ev .quo .i64 p0 10 = p0 / 10 := quo10 (by omega) (by omega)
 have e2 : BO.ev .rem .i64 p0 10 = p0 % 10 := rem10 (by omega)
 have a := qQo (n := p0 / 10) (by omega) (by omega)
 have b := qQo (n := p0 % 10) (by omega) (by omega)
 rw [e1, e2]
 simp only [nrm, Int.reduceEq, Int.reduceNeg, reduceIte, qKr]
 refine ⟨fun h0 => ⟨fun _ => ⟨fun _ => qXy (by omega) (by omega), fun h => ?_⟩, fun h => ?_⟩, fun h0 => ⟨fun _ => ⟨fun _ => dig_big (by omega) (by omega), fun h => ?_⟩, fun h => ?_⟩⟩ <;> omega
theorem plain (i v ro p) : statR 2 rc tree ⟨i, fN, v, ro, p⟩ = P (i 0) := by kernel_rfl
theorem ran : ranR us (fun _ _ => .auto) rc 2 tree = true := by kernel_rfl
theorem fineT : fineR 2 rc tree = true := by kernel_rfl
theorem ok : RcOk (cxOf 2) rc := okR us_ok ran fineT okb fun i v ro p hρ hcap hpre => by rw [plain]; have q := hρ.hi; exact holds _ (q 0 _ rfl).1 (q 0 _ rfl).2
end CRDg2
namespace CRDg3
def rc : Rc := ⟨23, [none], [.num .i64 0 999], [], .one, [.str (.f 129 (.v 0) (.c 0) (.c 0))]⟩
theorem okb : rc.ok = true := by kernel_rfl
noncomputable def us : SMs := fun Γ ins n => smBut 23 (smH (cxG n Γ ins) [] (smR (cxG n Γ ins) [CRDg2.rc]))
theorem us_ok : SMsOk us := fun Γ ins n => qKf (qZb (tabsG n Γ ins) (qQs _) (qZw (tabsG n Γ ins) (qQw CRDg2.okb (rc_n CRDg2.ok) (qQt _))))
def tree : TT (List E) :=
(.br (.b .lt .i64 (.v 0) (.c 10))
 (.br (.b .le .i64 (.v 0) (.b .padd .i64 (.v 0) (.c 1)))
 (.br (.b .le .i64 (.b .padd .i64 (.v 0) (.c 1)) (.f 21 (.f 11 (.c 10) (.f 11 (.f 11 (.c 48) (.f 11 (.c 49) (.f 11 (.c 50) (.f 11 (.c 51) (.f 11 (.c 52) (.f 11 (.c 53) (.f 11 (.c 54) (.f 11 (.c 55) (.f 11 (.c 56) (.f 11 (.c 57) (.c 0) (.c 0)) (.c 0)) (.c 0)) (.c 0)) (.c 0)) (.c 0)) (.c 0)) (.c 0)) (.c 0)) (.c 0)) (.c 0) (.c 0)) (.c 0)) (.c 0) (.c 0)))
 (.leaf [(.f 11 (.b .psub .i64 (.b .padd .i64 (.v 0) (.c 1)) (.v 0)) (.f 11 (.f 18 (.f 11 (.c 48) (.f 11 (.c 49) (.f 11 (.c 50) (.f 11 (.c 51) (.f 11 (.c 52) (.f 11 (.c 53) (.f 11 (.c 54) (.f 11 (.c 55) (.f 11 (.c 56) (.f 11 (.c 57) (.c 0) (.c 0)) (.c 0)) (.c 0)) (.c 0)) (.c 0)) (.c 0)) (.c 0)) (.c 0)) (.c 0)) (.c 0)) (.v 0) (.c 0)) (.c 0) (.c 0)) (.c 0))])
 (.bad 200))
 (.bad 200))
 (.br (.b .le .i64 (.b .quo .i64 (.v 0) (.c 10)) (.c 99))
 (.br (.b .le .i64 (.b .padd .i64 (.f 21 (.f 129 (.b .quo .i64 (.v 0) (.c 10)) (.c 0) (.c 0)) (.c 0) (.c 0)) (.f 21 (.f 129 (.b .rem .i64 (.v 0) (.c 10)) (.c 0) (.c 0)) (.c 0) (.c 0))) (.c 1000000))
 (.leaf [(.f 23 (.f 129 (.b .quo .i64 (.v 0) (.c 10)) (.c 0) (.c 0)) (.f 129 (.b .rem .i64 (.v 0) (.c 10)) (.c 0) (.c 0)) (.c 0))])
 (.bad 200))
 (.bad 200)))
def P (p0 : Int) : Prop :=
 (((qQx (decide (p0 < 10))) ≠ 0 →
  (((qQx (decide (p0 ≤ (p0 + 1)))) ≠ 0 →
   (((qQx (decide ((p0 + 1) ≤ (qQz (qQq 10 (qQq (qQq 48 (qQq 49 (qQq 50 (qQq 51 (qQq 52 (qQq 53 (qQq 54 (qQq 55 (qQq 56 (qQq 57 0)))))))))) 0)))))) ≠ 0 →
    qQj (qQq ((p0 + 1) - p0) (qQq (qQv (qQq 48 (qQq 49 (qQq 50 (qQq 51 (qQq 52 (qQq 53 (qQq 54 (qQq 55 (qQq 56 (qQq 57 0)))))))))) p0) 0)) = qQj (itoZ p0) ∧ True) ∧ ((qQx (decide ((p0 + 1) ≤ (qQz (qQq 10 (qQq (qQq 48 (qQq 49 (qQq 50 (qQq 51 (qQq 52 (qQq 53 (qQq 54 (qQq 55 (qQq 56 (qQq 57 0)))))))))) 0)))))) = 0 →
    False))) ∧ ((qQx (decide (p0 ≤ (p0 + 1)))) = 0 →
   False))) ∧ ((qQx (decide (p0 < 10))) = 0 →
  (((qQx (decide ((BO.ev .quo .i64 p0 10) ≤ 99))) ≠ 0 →
   (((qQx (decide (((qQz (itoZ (BO.ev .quo .i64 p0 10))) + (qQz (itoZ (BO.ev .rem .i64 p0 10)))) ≤ 1000000))) ≠ 0 →
    qQj (catZ (itoZ (BO.ev .quo .i64 p0 10)) (itoZ (BO.ev .rem .i64 p0 10))) = qQj (itoZ p0) ∧ True) ∧ ((qQx (decide (((qQz (itoZ (BO.ev .quo .i64 p0 10))) + (qQz (itoZ (BO.ev .rem .i64 p0 10)))) ≤ 1000000))) = 0 →
    False))) ∧ ((qQx (decide ((BO.ev .quo .i64 p0 10) ≤ 99))) = 0 →
   False))))
theorem holds (p0 : Int) (l_p0 : 0 ≤ p0) (u_p0 : p0 ≤ 999) : P p0 := by
 unfold P
 have e1 : BO.ev .quo .i64 p0 10 = p0 / 10 := quo10 (by omega) (by omega)
 have e2 : BO.ev .rem .i64 p0 10 = p0 % 10 := rem10 (by omega)
 have a := qQo (n := p0 / 10) (by omega) (by omega)
 have b := qQo (n := p0 % 10) (by omega) (by omega)
 rw [e1, e2]
 simp only [nrm, Int.reduceEq, Int.reduceNeg, reduceIte, qKr]
 refine ⟨fun h0 => ⟨fun _ => ⟨fun _ => qXy (by omega) (by omega), fun h => ?_⟩, fun h => ?_⟩, fun h0 => ⟨fun _ => ⟨fun _ => dig_big (by omega) (by omega), fun h => ?_⟩, fun h => ?_⟩⟩ <;> omega
theorem plain (i v ro p) : statR 2 rc tree ⟨i, fN, v, ro, p⟩ = P (i 0) := by kernel_rfl
theorem ran : ranR us (fun _ _ => .auto) rc 2 tree = true := by kernel_rfl
theorem fineT : fineR 2 rc tree = true := by kernel_rfl
theorem ok : RcOk (cxOf 2) rc := okR us_ok ran fineT okb fun i v ro p hρ hcap hpre => by rw [plain]; have q := hρ.hi; exact holds _ (q 0 _ rfl).1 (q 0 _ rfl).2
end CRDg3
namespace CRDg4
def rc : Rc := ⟨23, [none], [.num .i64 0 9999], [], .one, [.str (.f 129 (.v 0) (.c 0) (.c 0))]⟩
theorem okb : rc.ok = true := by kernel_rfl
noncomputable def us : SMs := fun Γ ins n => smBut 23 (smH (cxG n Γ ins) [] (smR (cxG n Γ ins) [CRDg3.rc]))
theorem us_ok : SMsOk us := fun Γ ins n => qKf (qZb (tabsG n Γ ins) (qQs _) (qZw (tabsG n Γ ins) (qQw CRDg3.okb (rc_n CRDg3.ok) (qQt _))))
def tree : TT (List E) :=
(.br (.b .lt .i64 (.v 0) (.c 10))
 (.br (.b .le .i64 (.v 0) (.b .padd .i64 (.v 0) (.c 1)))
 (.br (.b .le .i64 (.b .padd .i64 (.v 0) (.c 1)) (.f 21 (.f 11 (.c 10) (.f 11 (.f 11 (.c 48) (.f 11 (.c 49) (.f 11 (.c 50) (.f 11 (.c 51) (.f 11 (.c 52) (.f 11 (.c 53) (.f 11 (.c 54) (.f 11 (.c 55) (.f 11 (.c 56) (.f 11 (.c 57) (.c 0) (.c 0)) (.c 0)) (.c 0)) (.c 0)) (.c 0)) (.c 0)) (.c 0)) (.c 0)) (.c 0)) (.c 0)) (.c 0) (.c 0)) (.c 0)) (.c 0) (.c 0)))
 (.leaf [(.f 11 (.b .psub .i64 (.b .padd .i64 (.v 0) (.c 1)) (.v 0)) (.f 11 (.f 18 (.f 11 (.c 48) (.f 11 (.c 49) (.f 11 (.c 50) (.f 11 (.c 51) (.f 11 (.c 52) (.f 11 (.c 53) (.f 11 (.c 54) (.f 11 (.c 55) (.f 11 (.c 56) (.f 11 (.c 57) (.c 0) (.c 0)) (.c 0)) (.c 0)) (.c 0)) (.c 0)) (.c 0)) (.c 0)) (.c 0)) (.c 0)) (.c 0)) (.v 0) (.c 0)) (.c 0) (.c 0)) (.c 0))])
 (.bad 200))
 (.bad 200))
 (.br (.b .le .i64 (.b .quo .i64 (.v 0) (.c 10)) (.c 999))
 (.br (.b .le .i64 (.b .padd .i64 (.f 21 (.f 129 (.b .quo .i64 (.v 0) (.c 10)) (.c 0) (.c 0)) (.c 0) (.c 0)) (.f 21 (.f 129 (.b .rem .i64 (.v 0) (.c 10)) (.c 0) (.c 0)) (.c 0) (.c 0))) (.c 1000000))
 (.leaf [(.f 23 (.f 129 (.b .quo .i64 (.v 0) (.c 10)) (.c 0) (.c 0)) (.f 129 (.b .rem .i64 (.v 0) (.c 10)) (.c 0) (.c 0)) (.c 0))])
 (.bad 200))
 (.bad 200)))
def P (p0 : Int) : Prop :=
 (((qQx (decide (p0 < 10))) ≠ 0 →
  (((qQx (decide (p0 ≤ (p0 + 1)))) ≠ 0 →
   (((qQx (decide ((p0 + 1) ≤ (qQz (qQq 10 (qQq (qQq 48 (qQq 49 (qQq 50 (qQq 51 (qQq 52 (qQq 53 (qQq 54 (qQq 55 (qQq 56 (qQq 57 0)))))))))) 0)))))) ≠ 0 →
    qQj (qQq ((p0 + 1) - p0) (qQq (qQv (qQq 48 (qQq 49 (qQq 50 (qQq 51 (qQq 52 (qQq 53 (qQq 54 (qQq 55 (qQq 56 (qQq 57 0)))))))))) p0) 0)) = qQj (itoZ p0) ∧ True) ∧ ((qQx (decide ((p0 + 1) ≤ (qQz (qQq 10 (qQq (qQq 48 (qQq 49 (qQq 50 (qQq 51 (qQq 52 (qQq 53 (qQq 54 (qQq 55 (qQq 56 (qQq 57 0)))))))))) 0)))))) = 0 →
    False))) ∧ ((qQx (decide (p0 ≤ (p0 + 1)))) = 0 →
   False))) ∧ ((qQx (decide (p0 < 10))) = 0 →
  (((qQx (decide ((BO.ev .quo .i64 p0 10) ≤ 999))) ≠ 0 →
   (((qQx (decide (((qQz (itoZ (BO.ev .quo .i64 p0 10))) + (qQz (itoZ (BO.ev .rem .i64 p0 10)))) ≤ 1000000))) ≠ 0 →
    qQj (catZ (itoZ (BO.ev .quo .i64 p0 10)) (itoZ (BO.ev .rem .i64 p0 10))) = qQj (itoZ p0) ∧ True) ∧ ((qQx (decide (((qQz (itoZ (BO.ev .quo .i64 p0 10))) + (qQz (itoZ (BO.ev .rem .i64 p0 10)))) ≤ 1000000))) = 0 →
    False))) ∧ ((qQx (decide ((BO.ev .quo .i64 p0 10) ≤ 999))) = 0 →
   False))))
theorem holds (p0 : Int) (l_p0 : 0 ≤ p0) (u_p0 : p0 ≤ 9999) : P p0 := by
 unfold P
 have e1 : BO.ev .quo .i64 p0 10 = p0 / 10 := quo10 (by omega) (by omega)
 have e2 : BO.ev .rem .i64 p0 10 = p0 % 10 := rem10 (by omega)
 have a := qQo (n := p0 / 10) (by omega) (by omega)
 have b := qQo (n := p0 % 10) (by omega) (by omega)
 rw [e1, e2]
 simp only [nrm, Int.reduceEq, Int.reduceNeg, reduceIte, qKr]
 refine ⟨fun h0 => ⟨fun _ => ⟨fun _ => qXy (by omega) (by omega), fun h => ?_⟩, fun h => ?_⟩, fun h0 => ⟨fun _ => ⟨fun _ => dig_big (by omega) (by omega), fun h => ?_⟩, fun h => ?_⟩⟩ <;> omega
theorem plain (i v ro p) : statR 2 rc tree ⟨i, fN, v, ro, p⟩ = P (i 0) := by kernel_rfl
theorem ran : ranR us (fun _ _ => .auto) rc 2 tree = true := by kernel_rfl
theorem fineT : fineR 2 rc tree = true := by kernel_rfl
theorem ok : RcOk (cxOf 2) rc := okR us_ok ran fineT okb fun i v ro p hρ hcap hpre => by rw [plain]; have q := hρ.hi; exact holds _ (q 0 _ rfl).1 (q 0 _ rfl).2
end CRDg4
namespace CRDg5
def rc : Rc := ⟨23, [none], [.num .i64 0 99999], [], .one, [.str (.f 129 (.v 0) (.c 0) (.c 0))]⟩
theorem okb : rc.ok = true := by kernel_rfl
noncomputable def us : SMs := fun Γ ins n => smBut 23 (smH (cxG n Γ ins) [] (smR (cxG n Γ ins) [CRDg4.rc]))
theorem us_ok : SMsOk us := fun Γ ins n => qKf (qZb (tabsG n Γ ins) (qQs _) (qZw (tabsG n Γ ins) (qQw CRDg4.okb (rc_n CRDg4.ok) (qQt _))))
def tree : TT (List E) :=
(.br (.b .lt .i64 (.v 0) (.c 10))
 (.br (.b .le .i64 (.v 0) (.b .padd .i64 (.v 0) (.c 1)))
 (.br (.b .le .i64 (.b .padd .i64 (.v 0) (.c 1)) (.f 21 (.f 11 (.c 10) (.f 11 (.f 11 (.c 48) (.f 11 (.c 49) (.f 11 (.c 50) (.f 11 (.c 51) (.f 11 (.c 52) (.f 11 (.c 53) (.f 11 (.c 54) (.f 11 (.c 55) (.f 11 (.c 56) (.f 11 (.c 57) (.c 0) (.c 0)) (.c 0)) (.c 0)) (.c 0)) (.c 0)) (.c 0)) (.c 0)) (.c 0)) (.c 0)) (.c 0)) (.c 0) (.c 0)) (.c 0)) (.c 0) (.c 0)))
 (.leaf [(.f 11 (.b .psub .i64 (.b .padd .i64 (.v 0) (.c 1)) (.v 0)) (.f 11 (.f 18 (.f 11 (.c 48) (.f 11 (.c 49) (.f 11 (.c 50) (.f 11 (.c 51) (.f 11 (.c 52) (.f 11 (.c 53) (.f 11 (.c 54) (.f 11 (.c 55) (.f 11 (.c 56) (.f 11 (.c 57) (.c 0) (.c 0)) (.c 0)) (.c 0)) (.c 0)) (.c 0)) (.c 0)) (.c 0)) (.c 0)) (.c 0)) (.c 0)) (.v 0) (.c 0)) (.c 0) (.c 0)) (.c 0))])
 (.bad 200))
 (.bad 200))
 (.br (.b .le .i64 (.b .quo .i64 (.v 0) (.c 10)) (.c 9999))
 (.br (.b .le .i64 (.b .padd .i64 (.f 21 (.f 129 (.b .quo .i64 (.v 0) (.c 10)) (.c 0) (.c 0)) (.c 0) (.c 0)) (.f 21 (.f 129 (.b .rem .i64 (.v 0) (.c 10)) (.c 0) (.c 0)) (.c 0) (.c 0))) (.c 1000000))
 (.leaf [(.f 23 (.f 129 (.b .quo .i64 (.v 0) (.c 10)) (.c 0) (.c 0)) (.f 129 (.b .rem .i64 (.v 0) (.c 10)) (.c 0) (.c 0)) (.c 0))])
 (.bad 200))
 (.bad 200)))
def P (p0 : Int) : Prop :=
 (((qQx (decide (p0 < 10))) ≠ 0 →
  (((qQx (decide (p0 ≤ (p0 + 1)))) ≠ 0 →
   (((qQx (decide ((p0 + 1) ≤ (qQz (qQq 10 (qQq (qQq 48 (qQq 49 (qQq 50 (qQq 51 (qQq 52 (qQq 53 (qQq 54 (qQq 55 (qQq 56 (qQq 57 0)))))))))) 0)))))) ≠ 0 →
    qQj (qQq ((p0 + 1) - p0) (qQq (qQv (qQq 48 (qQq 49 (qQq 50 (qQq 51 (qQq 52 (qQq 53 (qQq 54 (qQq 55 (qQq 56 (qQq 57 0)))))))))) p0) 0)) = qQj (itoZ p0) ∧ True) ∧ ((qQx (decide ((p0 + 1) ≤ (qQz (qQq 10 (qQq (qQq 48 (qQq 49 (qQq 50 (qQq 51 (qQq 52 (qQq 53 (qQq 54 (qQq 55 (qQq 56 (qQq 57 0)))))))))) 0)))))) = 0 →
    False))) ∧ ((qQx (decide (p0 ≤ (p0 + 1)))) = 0 →
   False))) ∧ ((qQx (decide (p0 < 10))) = 0 →
  (((qQx (decide ((BO.ev .quo .i64 p0 10) ≤ 9999))) ≠ 0 →
   (((qQx (decide (((qQz (itoZ (BO.ev .quo .i64 p0 10))) + (qQz (itoZ (BO.ev .rem .i64 p0 10)))) ≤ 1000000))) ≠ 0 →
    qQj (catZ (itoZ (BO.ev .quo .i64 p0 10)) (itoZ (BO.ev .rem .i64 p0 10))) = qQj (itoZ p0) ∧ True) ∧ ((qQx (decide (((qQz (itoZ (BO.ev .quo .i64 p0 10))) + (qQz (itoZ (BO.ev .rem .i64 p0 10)))) ≤ 1000000))) = 0 →
    False))) ∧ ((qQx (decide ((BO.ev .quo .i64 p0 10) ≤ 9999))) = 0 →
   False))))
theorem holds (p0 : Int) (l_p0 : 0 ≤ p0) (u_p0 : p0 ≤ 99999) : P p0 := by
 unfold P
 have e1 : BO.ev .quo .i64 p0 10 = p0 / 10 := quo10 (by omega) (by omega)
 have e2 : BO.ev .rem .i64 p0 10 = p0 % 10 := rem10 (by omega)
 have a := qQo (n := p0 / 10) (by omega) (by omega)
 have b := qQo (n := p0 % 10) (by omega) (by omega)
 rw [e1, e2]
 simp only [nrm, Int.reduceEq, Int.reduceNeg, reduceIte, qKr]
 refine ⟨fun h0 => ⟨fun _ => ⟨fun _ => qXy (by omega) (by omega), fun h => ?_⟩, fun h => ?_⟩, fun h0 => ⟨fun _ => ⟨fun _ => dig_big (by omega) (by omega), fun h => ?_⟩, fun h => ?_⟩⟩ <;> omega
theorem plain (i v ro p) : statR 2 rc tree ⟨i, fN, v, ro, p⟩ = P (i 0) := by kernel_rfl
theorem ran : ranR us (fun _ _ => .auto) rc 2 tree = true := by kernel_rfl
theorem fineT : fineR 2 rc tree = true := by kernel_rfl
theorem ok : RcOk (cxOf 2) rc := okR us_ok ran fineT okb fun i v ro p hρ hcap hpre => by rw [plain]; have q := hρ.hi; exact holds _ (q 0 _ rfl).1 (q 0 _ rfl).2
end CRDg5
namespace CRDg6
def rc : Rc := ⟨23, [none], [.num .i64 0 999999], [], .one, [.str (.f 129 (.v 0) (.c 0) (.c 0))]⟩
theorem okb : rc.ok = true := by kernel_rfl
noncomputable def us : SMs := fun Γ ins n => smBut 23 (smH (cxG n Γ ins) [] (smR (cxG n Γ ins) [CRDg5.rc]))
theorem us_ok : SMsOk us := fun Γ ins n => qKf (qZb (tabsG n Γ ins) (qQs _) (qZw (tabsG n Γ ins) (qQw CRDg5.okb (rc_n CRDg5.ok) (qQt _))))
def tree : TT (List E) :=
(.br (.b .lt .i64 (.v 0) (.c 10))
 (.br (.b .le .i64 (.v 0) (.b .padd .i64 (.v 0) (.c 1)))
 (.br (.b .le .i64 (.b .padd .i64 (.v 0) (.c 1)) (.f 21 (.f 11 (.c 10) (.f 11 (.f 11 (.c 48) (.f 11 (.c 49) (.f 11 (.c 50) (.f 11 (.c 51) (.f 11 (.c 52) (.f 11 (.c 53) (.f 11 (.c 54) (.f 11 (.c 55) (.f 11 (.c 56) (.f 11 (.c 57) (.c 0) (.c 0)) (.c 0)) (.c 0)) (.c 0)) (.c 0)) (.c 0)) (.c 0)) (.c 0)) (.c 0)) (.c 0)) (.c 0) (.c 0)) (.c 0)) (.c 0) (.c 0)))
 (.leaf [(.f 11 (.b .psub .i64 (.b .padd .i64 (.v 0) (.c 1)) (.v 0)) (.f 11 (.f 18 (.f 11 (.c 48) (.f 11 (.c 49) (.f 11 (.c 50) (.f 11 (.c 51) (.f 11 (.c 52) (.f 11 (.c 53) (.f 11 (.c 54) (.f 11 (.c 55) (.f 11 (.c 56) (.f 11 (.c 57) (.c 0) (.c 0)) (.c 0)) (.c 0)) (.c 0)) (.c 0)) (.c 0)) (.c 0)) (.c 0)) (.c 0)) (.c 0)) (.v 0) (.c 0)) (.c 0) (.c 0)) (.c 0))])
 (.bad 200))
 (.bad 200))
 (.br (.b .le .i64 (.b .quo .i64 (.v 0) (.c 10)) (.c 99999))
 (.br (.b .le .i64 (.b .padd .i64 (.f 21 (.f 129 (.b .quo .i64 (.v 0) (.c 10)) (.c 0) (.c 0)) (.c 0) (.c 0)) (.f 21 (.f 129 (.b .rem .i64 (.v 0) (.c 10)) (.c 0) (.c 0)) (.c 0) (.c 0))) (.c 1000000))
 (.leaf [(.f 23 (.f 129 (.b .quo .i64 (.v 0) (.c 10)) (.c 0) (.c 0)) (.f 129 (.b .rem .i64 (.v 0) (.c 10)) (.c 0) (.c 0)) (.c 0))])
 (.bad 200))
 (.bad 200)))
def P (p0 : Int) : Prop :=
 (((qQx (decide (p0 < 10))) ≠ 0 →
  (((qQx (decide (p0 ≤ (p0 + 1)))) ≠ 0 →
   (((qQx (decide ((p0 + 1) ≤ (qQz (qQq 10 (qQq (qQq 48 (qQq 49 (qQq 50 (qQq 51 (qQq 52 (qQq 53 (qQq 54 (qQq 55 (qQq 56 (qQq 57 0)))))))))) 0)))))) ≠ 0 →
    qQj (qQq ((p0 + 1) - p0) (qQq (qQv (qQq 48 (qQq 49 (qQq 50 (qQq 51 (qQq 52 (qQq 53 (qQq 54 (qQq 55 (qQq 56 (qQq 57 0)))))))))) p0) 0)) = qQj (itoZ p0) ∧ True) ∧ ((qQx (decide ((p0 + 1) ≤ (qQz (qQq 10 (qQq (qQq 48 (qQq 49 (qQq 50 (qQq 51 (qQq 52 (qQq 53 (qQq 54 (qQq 55 (qQq 56 (qQq 57 0)))))))))) 0)))))) = 0 →
    False))) ∧ ((qQx (decide (p0 ≤ (p0 + 1)))) = 0 →
   False))) ∧ ((qQx (decide (p0 < 10))) = 0 →
  (((qQx (decide ((BO.ev .quo .i64 p0 10) ≤ 99999))) ≠ 0 →
   (((qQx (decide (((qQz (itoZ (BO.ev .quo .i64 p0 10))) + (qQz (itoZ (BO.ev .rem .i64 p0 10)))) ≤ 1000000))) ≠ 0 →
    qQj (catZ (itoZ (BO.ev .quo .i64 p0 10)) (itoZ (BO.ev .rem .i64 p0 10))) = qQj (itoZ p0) ∧ True) ∧ ((qQx (decide (((qQz (itoZ (BO.ev .quo .i64 p0 10))) + (qQz (itoZ (BO.ev .rem .i64 p0 10)))) ≤ 1000000))) = 0 →
    False))) ∧ ((qQx (decide ((BO.ev .quo .i64 p0 10) ≤ 99999))) = 0 →
   False))))
theorem holds (p0 : Int) (l_p0 : 0 ≤ p0) (u_p0 : p0 ≤ 999999) : P p0 := by
 unfold P
 have e1 : BO.ev .quo .i64 p0 10 = p0 / 10 := quo10 (by omega) (by omega)
 have e2 : BO.ev .rem .i64 p0 10 = p0 % 10 := rem10 (by omega)
 have a := qQo (n := p0 / 10) (by omega) (by omega)
 have b := qQo (n := p0 % 10) (by omega) (by omega)
 rw [e1, e2]
 simp only [nrm, Int.reduceEq, Int.reduceNeg, reduceIte, qKr]
 refine ⟨fun h0 => ⟨fun _ => ⟨fun _ => qXy (by omega) (by omega), fun h => ?_⟩, fun h => ?_⟩, fun h0 => ⟨fun _ => ⟨fun _ => dig_big (by omega) (by omega), fun h => ?_⟩, fun h => ?_⟩⟩ <;> omega
theorem plain (i v ro p) : statR 2 rc tree ⟨i, fN, v, ro, p⟩ = P (i 0) := by kernel_rfl
theorem ran : ranR us (fun _ _ => .auto) rc 2 tree = true := by kernel_rfl
theorem fineT : fineR 2 rc tree = true := by kernel_rfl
theorem ok : RcOk (cxOf 2) rc := okR us_ok ran fineT okb fun i v ro p hρ hcap hpre => by rw [plain]; have q := hρ.hi; exact holds _ (q 0 _ rfl).1 (q 0 _ rfl).2
end CRDg6
namespace CRDg7
def rc : Rc := ⟨23, [none], [.num .i64 0 9999999], [], .one, [.str (.f 129 (.v 0) (.c 0) (.c 0))]⟩
theorem okb : rc.ok = true := by kernel_rfl
noncomputable def us : SMs := fun Γ ins n => smBut 23 (smH (cxG n Γ ins) [] (smR (cxG n Γ ins) [CRDg6.rc]))
theorem us_ok : SMsOk us := fun Γ ins n => qKf (qZb (tabsG n Γ ins) (qQs _) (qZw (tabsG n Γ ins) (qQw CRDg6.okb (rc_n CRDg6.ok) (qQt _))))
def Q0 : E := (tp (.v 0) (.c 1))
def Q1 : E := (tC (.c 57) (.c 0))
def Q2 : E := (tC (.c 56) Q1)
def Q3 : E := (tC (.c 55) Q2)
def Q4 : E := (tC (.c 54) Q3)
def Q5 : E := (tC (.c 53) Q4)
def Q6 : E := (tC (.c 52) Q5)
def Q7 : E := (tC (.c 51) Q6)
def Q8 : E := (tC (.c 50) Q7)
def Q9 : E := (tC (.c 49) Q8)
def Q10 : E := (tC (.c 48) Q9)
def Q11 : E := (.b .quo .i64 (.v 0) (.c 10))
def Q12 : E := (.f 129 Q11 (.c 0) (.c 0))
def Q13 : E := (.b .rem .i64 (.v 0) (.c 10))
def Q14 : E := (.f 129 Q13 (.c 0) (.c 0))
def tree : TT (List E) :=
 (.br (tk (.v 0) (.c 10)) (.br (tl (.v 0) Q0) (.br (tl Q0 (.f 21 (tC (.c 10) (tC Q10 (.c 0))) (.c 0) (.c 0))) (.leaf [(tC (.b .psub .i64 Q0 (.v 0)) (tC (.f 18 Q10 (.v 0) (.c 0)) (.c 0)))]) (.bad 200)) (.bad 200)) (.br (tl Q11 (.c 999999)) (.br (tl (tp (.f 21 Q12 (.c 0) (.c 0)) (.f 21 Q14 (.c 0) (.c 0))) (.c 1000000)) (.leaf [(.f 23 Q12 Q14 (.c 0))]) (.bad 200)) (.bad 200)))
def P (a : Int) : Prop :=
 (Pb (Pl a 10) (Pm (PL a (a + 1)) (Pm (PL (a + 1) (qQz (kZ 10 (kZ (kZ 48 (kZ 49 (kZ 50 (kZ 51 (kZ 52 (kZ 53 (kZ 54 (kZ 55 (kZ 56 (kZ 57 0)))))))))) 0)))) (qQj (kZ ((a + 1) - a) (kZ (qQv (kZ 48 (kZ 49 (kZ 50 (kZ 51 (kZ 52 (kZ 53 (kZ 54 (kZ 55 (kZ 56 (kZ 57 0)))))))))) a) 0)) = qQj (itoZ a) ∧ True))) (Pm (PL (BO.ev .quo .i64 a 10) 999999) (Pm (PL ((qQz (itoZ (BO.ev .quo .i64 a 10))) + (qQz (itoZ (BO.ev .rem .i64 a 10)))) 1000000) (qQj (catZ (itoZ (BO.ev .quo .i64 a 10)) (itoZ (BO.ev .rem .i64 a 10))) = qQj (itoZ a) ∧ True))))
theorem holds (p0 : Int) (l_p0 : 0 ≤ p0) (u_p0 : p0 ≤ 9999999) : P p0 := by
 delta P Pb Pm PL Pl kZ
 have e1 : BO.ev .quo .i64 p0 10 = p0 / 10 := quo10 (by omega) (by omega)
 have e2 : BO.ev .rem .i64 p0 10 = p0 % 10 := rem10 (by omega)
 have a := qQo (n := p0 / 10) (by omega) (by omega)
 have b := qQo (n := p0 % 10) (by omega) (by omega)
 rw [e1, e2]
 simp only [nrm, Int.reduceEq, Int.reduceNeg, reduceIte, qKr]
 refine ⟨fun h0 => ⟨fun _ => ⟨fun _ => qXy (by omega) (by omega), fun h => ?_⟩, fun h => ?_⟩, fun h0 => ⟨fun _ => ⟨fun _ => dig_big (by omega) (by omega), fun h => ?_⟩, fun h => ?_⟩⟩ <;> omega
theorem plain (i v ro p) : statR 2 rc tree ⟨i, fN, v, ro, p⟩ = P (i 0) := by kernel_rfl
theorem ran : ranR us (fun _ _ => .auto) rc 2 tree = true := by kernel_rfl
theorem fineT : fineR 2 rc tree = true := by kernel_rfl
theorem ok : RcOk (cxOf 2) rc := okR us_ok ran fineT okb fun i v ro p hρ hcap hpre => by rw [plain]; have q := hρ.hi; exact holds _ (q 0 _ rfl).1 (q 0 _ rfl).2
end CRDg7
namespace CRDg8
def rc : Rc := ⟨23, [none], [.num .i64 0 99999999], [], .one, [.str (.f 129 (.v 0) (.c 0) (.c 0))]⟩
theorem okb : rc.ok = true := by kernel_rfl
noncomputable def us : SMs := fun Γ ins n => smBut 23 (smH (cxG n Γ ins) [] (smR (cxG n Γ ins) [CRDg7.rc]))
theorem us_ok : SMsOk us := fun Γ ins n => qKf (qZb (tabsG n Γ ins) (qQs _) (qZw (tabsG n Γ ins) (qQw CRDg7.okb (rc_n CRDg7.ok) (qQt _))))
def Q0 : E := (tp (.v 0) (.c 1))
def Q1 : E := (tC (.c 57) (.c 0))
def Q2 : E := (tC (.c 56) Q1)
def Q3 : E := (tC (.c 55) Q2)
def Q4 : E := (tC (.c 54) Q3)
def Q5 : E := (tC (.c 53) Q4)
def Q6 : E := (tC (.c 52) Q5)
def Q7 : E := (tC (.c 51) Q6)
def Q8 : E := (tC (.c 50) Q7)
def Q9 : E := (tC (.c 49) Q8)
def Q10 : E := (tC (.c 48) Q9)
def Q11 : E := (.b .quo .i64 (.v 0) (.c 10))
def Q12 : E := (.f 129 Q11 (.c 0) (.c 0))
def Q13 : E := (.b .rem .i64 (.v 0) (.c 10))
def Q14 : E := (.f 129 Q13 (.c 0) (.c 0))
def tree : TT (List E) :=
 (.br (tk (.v 0) (.c 10)) (.br (tl (.v 0) Q0) (.br (tl Q0 (.f 21 (tC (.c 10) (tC Q10 (.c 0))) (.c 0) (.c 0))) (.leaf [(tC (.b .psub .i64 Q0 (.v 0)) (tC (.f 18 Q10 (.v 0) (.c 0)) (.c 0)))]) (.bad 200)) (.bad 200)) (.br (tl Q11 (.c 9999999)) (.br (tl (tp (.f 21 Q12 (.c 0) (.c 0)) (.f 21 Q14 (.c 0) (.c 0))) (.c 1000000)) (.leaf [(.f 23 Q12 Q14 (.c 0))]) (.bad 200)) (.bad 200)))
def P (a : Int) : Prop :=
 (Pb (Pl a 10) (Pm (PL a (a + 1)) (Pm (PL (a + 1) (qQz (kZ 10 (kZ (kZ 48 (kZ 49 (kZ 50 (kZ 51 (kZ 52 (kZ 53 (kZ 54 (kZ 55 (kZ 56 (kZ 57 0)))))))))) 0)))) (qQj (kZ ((a + 1) - a) (kZ (qQv (kZ 48 (kZ 49 (kZ 50 (kZ 51 (kZ 52 (kZ 53 (kZ 54 (kZ 55 (kZ 56 (kZ 57 0)))))))))) a) 0)) = qQj (itoZ a) ∧ True))) (Pm (PL (BO.ev .quo .i64 a 10) 9999999) (Pm (PL ((qQz (itoZ (BO.ev .quo .i64 a 10))) + (qQz (itoZ (BO.ev .rem .i64 a 10)))) 1000000) (qQj (catZ (itoZ (BO.ev .quo .i64 a 10)) (itoZ (BO.ev .rem .i64 a 10))) = qQj (itoZ a) ∧ True))))
theorem holds (p0 : Int) (l_p0 : 0 ≤ p0) (u_p0 : p0 ≤ 99999999) : P p0 := by
 delta P Pb Pm PL Pl kZ
 have e1 : BO.ev .quo .i64 p0 10 = p0 / 10 := quo10 (by omega) (by omega)
 have e2 : BO.ev .rem .i64 p0 10 = p0 % 10 := rem10 (by omega)
 have a := qQo (n := p0 / 10) (by omega) (by omega)
 have b := qQo (n := p0 % 10) (by omega) (by omega)
 rw [e1, e2]
 simp only [nrm, Int.reduceEq, Int.reduceNeg, reduceIte, qKr]
 refine ⟨fun h0 => ⟨fun _ => ⟨fun _ => qXy (by omega) (by omega), fun h => ?_⟩, fun h => ?_⟩, fun h0 => ⟨fun _ => ⟨fun _ => dig_big (by omega) (by omega), fun h => ?_⟩, fun h => ?_⟩⟩ <;> omega
theorem plain (i v ro p) : statR 2 rc tree ⟨i, fN, v, ro, p⟩ = P (i 0) := by kernel_rfl
theorem ran : ranR us (fun _ _ => .auto) rc 2 tree = true := by kernel_rfl
theorem fineT : fineR 2 rc tree = true := by kernel_rfl
theorem ok : RcOk (cxOf 2) rc := okR us_ok ran fineT okb fun i v ro p hρ hcap hpre => by rw [plain]; have q := hρ.hi; exact holds _ (q 0 _ rfl).1 (q 0 _ rfl).2
end CRDg8
namespace CRDg9
def rc : Rc := ⟨23, [none], [.num .i64 0 999999999], [], .one, [.str (.f 129 (.v 0) (.c 0) (.c 0))]⟩
theorem okb : rc.ok = true := by kernel_rfl
noncomputable def us : SMs := fun Γ ins n => smBut 23 (smH (cxG n Γ ins) [] (smR (cxG n Γ ins) [CRDg8.rc]))
theorem us_ok : SMsOk us := fun Γ ins n => qKf (qZb (tabsG n Γ ins) (qQs _) (qZw (tabsG n Γ ins) (qQw CRDg8.okb (rc_n CRDg8.ok) (qQt _))))
def Q0 : E := (tp (.v 0) (.c 1))
def Q1 : E := (tC (.c 57) (.c 0))
def Q2 : E := (tC (.c 56) Q1)
def Q3 : E := (tC (.c 55) Q2)
def Q4 : E := (tC (.c 54) Q3)
def Q5 : E := (tC (.c 53) Q4)
def Q6 : E := (tC (.c 52) Q5)
def Q7 : E := (tC (.c 51) Q6)
def Q8 : E := (tC (.c 50) Q7)
def Q9 : E := (tC (.c 49) Q8)
def Q10 : E := (tC (.c 48) Q9)
def Q11 : E := (.b .quo .i64 (.v 0) (.c 10))
def Q12 : E := (.f 129 Q11 (.c 0) (.c 0))
def Q13 : E := (.b .rem .i64 (.v 0) (.c 10))
def Q14 : E := (.f 129 Q13 (.c 0) (.c 0))
def tree : TT (List E) :=
 (.br (tk (.v 0) (.c 10)) (.br (tl (.v 0) Q0) (.br (tl Q0 (.f 21 (tC (.c 10) (tC Q10 (.c 0))) (.c 0) (.c 0))) (.leaf [(tC (.b .psub .i64 Q0 (.v 0)) (tC (.f 18 Q10 (.v 0) (.c 0)) (.c 0)))]) (.bad 200)) (.bad 200)) (.br (tl Q11 (.c 99999999)) (.br (tl (tp (.f 21 Q12 (.c 0) (.c 0)) (.f 21 Q14 (.c 0) (.c 0))) (.c 1000000)) (.leaf [(.f 23 Q12 Q14 (.c 0))]) (.bad 200)) (.bad 200)))
def P (a : Int) : Prop :=
 (Pb (Pl a 10) (Pm (PL a (a + 1)) (Pm (PL (a + 1) (qQz (kZ 10 (kZ (kZ 48 (kZ 49 (kZ 50 (kZ 51 (kZ 52 (kZ 53 (kZ 54 (kZ 55 (kZ 56 (kZ 57 0)))))))))) 0)))) (qQj (kZ ((a + 1) - a) (kZ (qQv (kZ 48 (kZ 49 (kZ 50 (kZ 51 (kZ 52 (kZ 53 (kZ 54 (kZ 55 (kZ 56 (kZ 57 0)))))))))) a) 0)) = qQj (itoZ a) ∧ True))) (Pm (PL (BO.ev .quo .i64 a 10) 99999999) (Pm (PL ((qQz (itoZ (BO.ev .quo .i64 a 10))) + (qQz (itoZ (BO.ev .rem .i64 a 10)))) 1000000) (qQj (catZ (itoZ (BO.ev .quo .i64 a 10)) (itoZ (BO.ev .rem .i64 a 10))) = qQj (itoZ a) ∧ True))))
theorem holds (p0 : Int) (l_p0 : 0 ≤ p0) (u_p0 : p0 ≤ 999999999) : P p0 := by
 delta P Pb Pm PL Pl kZ
 have e1 : BO.ev .quo .i64 p0 10 = p0 / 10 := quo10 (by omega) (by omega)
 have e2 : BO.ev .rem .i64 p0 10 = p0 % 10 := rem10 (by omega)
 have a := qQo (n := p0 / 10) (by omega) (by omega)
 have b := qQo (n := p0 % 10) (by omega) (by omega)
 rw [e1, e2]
 simp only [nrm, Int.reduceEq, Int.reduceNeg, reduceIte, qKr]
 refine ⟨fun h0 => ⟨fun _ => ⟨fun _ => qXy (by omega) (by omega), fun h => ?_⟩, fun h => ?_⟩, fun h0 => ⟨fun _ => ⟨fun _ => dig_big (by omega) (by omega), fun h => ?_⟩, fun h => ?_⟩⟩ <;> omega
theorem plain (i v ro p) : statR 2 rc tree ⟨i, fN, v, ro, p⟩ = P (i 0) := by kernel_rfl
theorem ran : ranR us (fun _ _ => .auto) rc 2 tree = true := by kernel_rfl
theorem fineT : fineR 2 rc tree = true := by kernel_rfl
theorem ok : RcOk (cxOf 2) rc := okR us_ok ran fineT okb fun i v ro p hρ hcap hpre => by rw [plain]; have q := hρ.hi; exact holds _ (q 0 _ rfl).1 (q 0 _ rfl).2
end CRDg9
namespace CRDigits
def rc : Rc := ⟨23, [none], [.num .i64 (-999999999) 999999999], [], .one, [.str (.f 129 (.v 0) (.c 0) (.c 0))]⟩
theorem okb : rc.ok = true := by kernel_rfl
noncomputable def us : SMs := fun Γ ins n => smBut 23 (smH (cxG n Γ ins) [] (smR (cxG n Γ ins) [CRDg9.rc]))
theorem us_ok : SMsOk us := fun Γ ins n => qKf (qZb (tabsG n Γ ins) (qQs _) (qZw (tabsG n Γ ins) (qQw CRDg9.okb (rc_n CRDg9.ok) (qQt _))))
def Q0 : E := (.b .psub .i64 (.c 0) (.v 0))
def Q1 : E := (tC (.c 45) (.c 0))
def Q2 : E := (tC Q1 (.c 0))
def Q3 : E := (tC (.c 1) Q2)
def Q4 : E := (.f 129 Q0 (.c 0) (.c 0))
def Q5 : E := (tp (.v 0) (.c 1))
def Q6 : E := (tC (.c 57) (.c 0))
def Q7 : E := (tC (.c 56) Q6)
def Q8 : E := (tC (.c 55) Q7)
def Q9 : E := (tC (.c 54) Q8)
def Q10 : E := (tC (.c 53) Q9)
def Q11 : E := (tC (.c 52) Q10)
def Q12 : E := (tC (.c 51) Q11)
def Q13 : E := (tC (.c 50) Q12)
def Q14 : E := (tC (.c 49) Q13)
def Q15 : E := (tC (.c 48) Q14)
def Q16 : E := (.b .quo .i64 (.v 0) (.c 10))
def Q17 : E := (.b .rem .i64 (.v 0) (.c 10))
def Q18 : E := (.f 129 Q16 (.c 0) (.c 0))
def Q19 : E := (.f 129 Q17 (.c 0) (.c 0))
def tree : TT (List E) :=
 (.br (tk (.v 0) (.c 0)) (.br (tl (.c 0) Q0) (.br (tl (tp (.f 21 Q3 (.c 0) (.c 0)) (.f 21 Q4 (.c 0) (.c 0))) (.c 1000000)) (.leaf [(.f 23 Q3 Q4 (.c 0))]) (.bad 200)) (.bad 200)) (.br (tk (.v 0) (.c 10)) (.br (tl (.c 0) (.v 0)) (.br (tl (.v 0) Q5) (.br (tl Q5 (.f 21 (tC (.c 10) (tC Q15 (.c 0))) (.c 0) (.c 0))) (.leaf [(tC (.b .psub .i64 Q5 (.v 0)) (tC (.f 18 Q15 (.v 0) (.c 0)) (.c 0)))]) (.bad 200)) (.bad 200)) (.bad 200)) (.br (tl (.c 0) Q16) (.br (tl Q16 (.c 999999999)) (.br (tl (.c 0) Q17) (.br (tl (tp (.f 21 Q18 (.c 0) (.c 0)) (.f 21 Q19 (.c 0) (.c 0))) (.c 1000000)) (.leaf [(.f 23 Q18 Q19 (.c 0))]) (.bad 200)) (.bad 200)) (.bad 200)) (.bad 200))))
def P (a : Int) : Prop :=
 (Pb (Pl a 0) (Pm (PL 0 (0 - a)) (Pm (PL ((qQz (kZ 1 (kZ (kZ 45 0) 0))) + (qQz (itoZ (0 - a)))) 1000000) (qQj (catZ (kZ 1 (kZ (kZ 45 0) 0)) (itoZ (0 - a))) = qQj (itoZ a) ∧ True))) (Pb (Pl a 10) (Pm (PL 0 a) (Pm (PL a (a + 1)) (Pm (PL (a + 1) (qQz (kZ 10 (kZ (kZ 48 (kZ 49 (kZ 50 (kZ 51 (kZ 52 (kZ 53 (kZ 54 (kZ 55 (kZ 56 (kZ 57 0)))))))))) 0)))) (qQj (kZ ((a + 1) - a) (kZ (qQv (kZ 48 (kZ 49 (kZ 50 (kZ 51 (kZ 52 (kZ 53 (kZ 54 (kZ 55 (kZ 56 (kZ 57 0)))))))))) a) 0)) = qQj (itoZ a) ∧ True)))) (Pm (PL 0 (BO.ev .quo .i64 a 10)) (Pm (PL (BO.ev .quo .i64 a 10) 999999999) (Pm (PL 0 (BO.ev .rem .i64 a 10)) (Pm (PL ((qQz (itoZ (BO.ev .quo .i64 a 10))) + (qQz (itoZ (BO.ev .rem .i64 a 10)))) 1000000) (qQj (catZ (itoZ (BO.ev .quo .i64 a 10)) (itoZ (BO.ev .rem .i64 a 10))) = qQj
 (itoZ a) ∧ True)))))))
theorem holds (p0 : Int) (l_p0 : -999999999 ≤ p0) (u_p0 : p0 ≤ 999999999) : P p0 := by
 delta P Pb Pm PL Pl kZ
 by_cases hn : p0 < 0
 ·have a := qQo (n := 0 - p0) (by omega) (by omega)
  simp only [nrm, Int.reduceEq, Int.reduceNeg, reduceIte, qKr, qZm]
  refine ⟨fun _ => ⟨fun _ => ⟨fun _ => dig_neg hn (by omega), fun h => ?_⟩, fun h => ?_⟩, fun h => ?_⟩ <;> omega
 ·have e1 : BO.ev .quo .i64 p0 10 = p0 / 10 := quo10 (by omega) (by omega)
  have e2 : BO.ev .rem .i64 p0 10 = p0 % 10 := rem10 (by omega)
  have a := qQo (n := p0 / 10) (by omega) (by omega)
  have b := qQo (n := p0 % 10) (by omega) (by omega)
  rw [e1, e2]
  simp only [nrm, Int.reduceEq, Int.reduceNeg, reduceIte, qKr]
  refine ⟨fun h => ?_, fun _ => ⟨fun h0 => ⟨fun _ => ⟨fun _ => ⟨fun _ => qXy (by omega) (by omega), fun h => ?_⟩, fun h => ?_⟩, fun h => ?_⟩, fun h0 => ⟨fun _ => ⟨fun _ => ⟨fun _ => ⟨fun _ => dig_big (by omega) (by omega), fun h => ?_⟩, fun h => ?_⟩, fun h => ?_⟩, fun h => ?_⟩⟩⟩ <;> omega
theorem plain (i v ro p) : statR 2 rc tree ⟨i, fN, v, ro, p⟩ = P (i 0) := by kernel_rfl
theorem ran : ranR us (fun _ _ => .auto) rc 2 tree = true := by kernel_rfl
theorem fineT : fineR 2 rc tree = true := by kernel_rfl
theorem ok : RcOk (cxOf 2) rc := okR us_ok ran fineT okb fun i v ro p hρ hcap hpre => by rw [plain]; have q := hρ.hi; exact holds _ (q 0 _ rfl).1 (q 0 _ rfl).2
end CRDigits
end Go.Proofs.YtppiabilakeadaaGreatDoor
