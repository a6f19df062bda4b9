/-
  What functions of the program answer, as numbers of what they are handed: their runs by the engine, the plain statements behind them. No condition.
-/
import Derived.Test.YtppkkgicidagmabGreatDoorKa
import Derived.Test.YtppkkgicidagmabGreatDoorKb
import Derived.Test.YtppkkgicidagmabGreatDoorKf
import Derived.Test.YtppkkgicidagmabGreatDoorGab
import Derived.Test.YtppkkgicidagmabGreatDoorGib
import Derived.Test.YtppkkgicidagmabGreatDoorGp4
set_option linter.unusedVariables false
set_option linter.unusedSimpArgs false
set_option maxRecDepth 100000
namespace Go.Proofs.YtppkkgicidagmabGreatDoor
open Go.Eng Go.RowKit
namespace CAwake44
def rc : Rc := ⟨4, [], [], [], .one, [.bool (.c 1)]⟩
theorem okb : rc.ok = true := by kernel_rfl
noncomputable def us : SMs := fun Γ ins n => smH (cxG n Γ ins) [] (smAnd 5 (libBMost Γ ins n) (smAnd 6 (libBLeast Γ ins n) (smR (cxG n Γ ins) [CGNext.rc, COCost.rc, CCDec.rc])))
theorem us_ok : SMsOk us := fun Γ ins n => smH_ok (tabsG n Γ ins) (qKh _) (smAnd_ok (libBMost_ok CGNext.nextC COCost.costC CCDec.decC Γ ins n) (smAnd_ok (libBLeast_ok CGNext.nextC COCost.costC CCDec.decC Γ ins n) (smR_ok (tabsG n Γ ins) (qJv CGNext.okb (rc_n CGNext.ok) (qJv COCost.okb (rc_n COCost.ok) (qJv CCDec.okb (rc_n CCDec.ok) (qKi _)))))))
def tree : TT (List E) :=
(.br (.b .eq .i64 (.f 180 (.f 11 (.c 2415919106) (.f 11 (.c 1210124288) (.f 11 (.c 2885681152) (.c 0) (.c 0)) (.c 0)) (.c 0)) (.c 3) (.c 0)) (.c 5))
 (.br (.b .eq .i64 (.f 181 (.f 11 (.c 2415919106) (.f 11 (.c 1210124288) (.f 11 (.c 2885681152) (.c 0) (.c 0)) (.c 0)) (.c 0)) (.c 3) (.c 0)) (.c 0))
 (.br (.b .eq .i64 (.f 182 (.f 11 (.c 2415919106) (.f 11 (.c 1210124288) (.f 11 (.c 2885681152) (.c 0) (.c 0)) (.c 0)) (.c 0)) (.c 3) (.c 0)) (.c 4))
 (.br (.b .eq .i64 (.f 183 (.f 11 (.c 2415919106) (.f 11 (.c 1210124288) (.f 11 (.c 2885681152) (.c 0) (.c 0)) (.c 0)) (.c 0)) (.c 3) (.c 0)) (.c 0))
 (.leaf [(.b .eq .i64 (.f 181 (.f 11 (.c 2617245696) (.c 0) (.c 0)) (.c 1) (.c 0)) (.c 12))])
 (.leaf [(.c 0)]))
 (.leaf [(.c 0)]))
 (.leaf [(.c 0)]))
 (.leaf [(.c 0)]))
def P : Prop :=
 (((qQj ((bmN (qQq 2415919106 (qQq 1210124288 (qQq 2885681152 0))) 3) == 5)) ≠ 0 →
  (((qQj ((bmE (qQq 2415919106 (qQq 1210124288 (qQq 2885681152 0))) 3) == 0)) ≠ 0 →
   (((qQj ((blN (qQq 2415919106 (qQq 1210124288 (qQq 2885681152 0))) 3) == 4)) ≠ 0 →
    (((qQj ((blE (qQq 2415919106 (qQq 1210124288 (qQq 2885681152 0))) 3) == 0)) ≠ 0 →
     (((qQj ((bmE (qQq 2617245696 0) 1) == 12)) : Int) ≠ 0 ↔ (1 : Int) ≠ 0) ∧ True) ∧ ((qQj ((blE (qQq 2415919106 (qQq 1210124288 (qQq 2885681152 0))) 3) == 0)) = 0 →
     ((0 : Int) ≠ 0 ↔ (1 : Int) ≠ 0) ∧ True))) ∧ ((qQj ((blN (qQq 2415919106 (qQq 1210124288 (qQq 2885681152 0))) 3) == 4)) = 0 →
    ((0 : Int) ≠ 0 ↔ (1 : Int) ≠ 0) ∧ True))) ∧ ((qQj ((bmE (qQq 2415919106 (qQq 1210124288 (qQq 2885681152 0))) 3) == 0)) = 0 →
   ((0 : Int) ≠ 0 ↔ (1 : Int) ≠ 0) ∧ True))) ∧ ((qQj ((bmN (qQq 2415919106 (qQq 1210124288 (qQq 2885681152 0))) 3) == 5)) = 0 →
  ((0 : Int) ≠ 0 ↔ (1 : Int) ≠ 0) ∧ True))
theorem holds : P := by
 unfold P
 obtain ⟨h1, h2, h3, h4, h5⟩ := aw44
 simp only [show qQq 2415919106 (qQq 1210124288 (qQq 2885681152 0)) = qB from rfl, show qQq 2617245696 0 = qC from rfl, h1, h2, h3, h4, h5]
 simp [qQj]
theorem plain (i v ro p) : statR 2 rc tree ⟨i, fN, v, ro, p⟩ = P  := by kernel_rfl
theorem ran : ranR us (fun _ _ => .auto) rc 2 tree = true := by kernel_rfl
theorem fineT : fineR 2 rc tree = true := by kernel_rfl
theorem ok : RcOk (cxOf 2) rc := okR us_ok ran fineT okb fun i v ro p hρ hcap hpre => by rw [plain]; have q := hρ.hi; exact holds
end CAwake44
end Go.Proofs.YtppkkgicidagmabGreatDoor
