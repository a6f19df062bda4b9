/-
  What functions of the program answer, as numbers of what they are handed: their runs by the engine, the plain statements behind them. No condition.
-/
import Derived.Test.YthfckifhnaoopacKc
import Derived.Test.YthfckifhnaoopacKf
import Derived.Test.YthfckifhnaoopacGab
import Derived.Test.YthfckifhnaoopacGib
import Derived.Test.YthfckifhnaoopacGp3
set_option linter.unusedVariables false
set_option linter.unusedSimpArgs false
set_option maxRecDepth 100000
namespace Go.Proofs.Ythfckifhnaoopac
open Go.Eng Go.RowKit
namespace CAwake45
def rc : Rc := ⟨5, [], [], [], .one, [.bool (.c 1)]⟩
theorem okb : rc.ok = true := by kernel_rfl
noncomputable def us : SMs := fun Γ ins n => smH (cxG n Γ ins) [] (smAnd 34 (libGReach Γ ins n) (smAnd 16 (libClone16 Γ ins n) (smAnd 17 (libClone17 Γ ins n) (smAnd 18 (libClone18 Γ ins n) (smR (cxG n Γ ins) [CSSlim.rc, CGNext.rc])))))
theorem us_ok : SMsOk us := fun Γ ins n => qZp (tabsG n Γ ins) (qZk _) (qJz (libGReach_ok CGNext.nextC Γ ins n) (qJz (libClone16_ok Γ ins n) (qJz (libClone17_ok Γ ins n) (qJz (libClone18_ok Γ ins n) (qZo (tabsG n Γ ins) (qQe CSSlim.okb (rc_n CSSlim.ok) (qQe CGNext.okb (rc_n CGNext.ok) (qZy _))))))))
def Q0 : E := (tC (.c 0) (.c 0))
def Q1 : E := (tC (.c 0) Q0)
def Q2 : E := (tC (.c 0) Q1)
def Q3 : E := (tC (.c 0) Q2)
def Q4 : E := (tC (.c 0) Q3)
def Q5 : E := (.f 84 (.c 6) (.c 0) Q4)
def Q6 : E := (te Q5 (.c 0))
def Q7 : E := (tC (.c 2885681152) (.c 0))
def Q8 : E := (tC (.c 2418016256) Q7)
def Q9 : E := (tC (.c 2818572288) Q8)
def Q10 : E := (tC (.c 2885681152) Q9)
def Q11 : E := (tC (.c 2617245699) Q10)
def Q12 : E := (tC (.c 2818572288) Q11)
def Q13 : E := (.f 175 Q12 (.c 6) (.c 0))
def Q14 : E := (te Q13 (.c 0))
def Q15 : E := (.f 174 Q12 (.c 6) (.c 0))
def tree : TT (List E) :=
 (.new 1000 (.ite Q6 (.ite Q14 (.f 171 Q12 (.c 6) (.c 0)) (.c 0)) (.c 0)) (.new 1001 (.ite Q6 (.ite Q14 (.c 0) (.c 0)) (.c 0)) (.new 1002 (.ite Q6 (.ite Q14 (.c 0) (.c 12)) Q5) (.br (te (.cl 1002 0 12) (.c 0)) (.br (te (.cl 1000 0 1000) (.c 3)) (.br (tk (.c 0) (.cl 1000 0 1000)) (.br (te (.w .u32 (tR Q15 (.c 0))) (.c 2617245697)) (.br (tk (.c 1) (.cl 1000 0 1000)) (.br (te (.w .u32 (tR Q15 (.c 1))) (.c 2418016256)) (.br (tk (.c 2) (.cl 1000 0 1000)) (.leaf [(te (.w .u32 (tR Q15 (.c 2))) (.c 2885681152))]) (.bad 200)) (.leaf [(.c 0)])) (.bad 200)) (.leaf [(.c 0)])) (.bad 200)) (.leaf [(.c 0)])) (.leaf [(.c 0)])))))
noncomputable def sq0 : Int := (kZ 2818572288 (kZ 2617245699 (kZ 2885681152 (kZ 2818572288 (kZ 2418016256 (kZ 2885681152 0))))))
def P : Prop :=
 Pn (iteZ (Pe (chkZ 6 0 (kZ 0 (kZ 0 (kZ 0 (kZ 0 (kZ 0 0)))))) 0) (iteZ (Pe (slmE sq0 6) 0) (plcN sq0 6) 0) 0) 0 1000 fun y0 => Pn (iteZ (Pe (chkZ 6 0 (kZ 0 (kZ 0 (kZ 0 (kZ 0 (kZ 0 0)))))) 0) (iteZ (Pe (slmE sq0 6) 0) 0 0) 0) 0 0 fun y1 => Pn (iteZ (Pe (chkZ 6 0 (kZ 0 (kZ 0 (kZ 0 (kZ 0 (kZ 0 0)))))) 0) (iteZ (Pe (slmE sq0 6) 0) 0 12) (chkZ 6 0 (kZ 0 (kZ 0 (kZ 0 (kZ 0 (kZ 0 0))))))) 0 12 fun y2 => (Pb (Pe y2 0) (Pb (Pe y0 3) (Pm (Pl 0 y0) (Pb (Pe (U3 (rdZ (slmZ sq0 6) 0)) 2617245697) (Pm (Pl 1 y0) (Pb (Pe (U3 (rdZ (slmZ sq0 6) 1)) 2418016256) (Pm (Pl 2 y0) ((((Pe (U3 (rdZ (slmZ sq0 6) 2)) 2885681152) : Int) ≠ 0 ↔ (1 : Int) ≠ 0) ∧ True)) Pf)) Pf)) Pf) Pf)
theorem holds  : P := by
 delta P sq0 Pb Pm Pn Pf Pl Pe U3 kZ
 have hq : qQz 2818572288 (qQz 2617245699 (qQz 2885681152 (qQz 2818572288 (qQz 2418016256 (qQz 2885681152 0))))) = qS := rfl
 have hchk : chk7 6 0 0 0 0 0 0 = 0 := (chk_ok (by decide) rfl (fun i hi => by omega) (fun i hi => by omega) (fun ⟨i, k, h1, h2, _⟩ => by omega)).symm
 obtain ⟨r0, r1, r2⟩ := ss_srd
 simp only [hq, chk_ev, hchk, ss_N, ss_E, r0, r1, r2]
 rintro y0 rfl - y1 rfl - y2 rfl -
 have w0 : IntKind.wrap .u32 2617245697 = 2617245697 := by decide
 have w1 : IntKind.wrap .u32 2418016256 = 2418016256 := by decide
 have w2 : IntKind.wrap .u32 2885681152 = 2885681152 := by decide
 rw [w0, w1, w2]
 simp [iteZ, qQq]
theorem plain (i v ro p) : statR 2 rc tree ⟨i, fN, v, ro, p⟩ = P  := by kernel_rfl
theorem ran : ranR us (fun _ _ => .auto) rc 2 tree = true := by kernel_rfl
theorem fineT : fineR 2 rc tree = true := by kernel_rfl
theorem ok : RcOk (cxOf 2) rc := okR us_ok ran fineT okb fun i v ro p hρ hcap hpre => by rw [plain]; have q := hρ.hi; exact holds
end CAwake45
end Go.Proofs.Ythfckifhnaoopac
