/-
  What functions of the program answer, as numbers of what they are handed: their runs by the engine, the plain statements behind them. No condition.
-/
import Derived.Test.YtacchdmnhfkekaaKb
import Derived.Test.YtacchdmnhfkekaaKf
import Derived.Test.YtacchdmnhfkekaaGab
import Derived.Test.YtacchdmnhfkekaaGib
import Derived.Test.YtacchdmnhfkekaaGp3
set_option linter.unusedVariables false
set_option linter.unusedSimpArgs false
set_option maxRecDepth 100000
namespace Go.Proofs.Ytacchdmnhfkekaa
open Go.Eng Go.RowKit
namespace CAwake18
def rc : Rc := ⟨4, [], [], [], .one, [.bool (.c 1)]⟩
theorem okb : rc.ok = true := by kernel_rfl
noncomputable def us : SMs := fun Γ ins n => smH (cxG n Γ ins) [] (smAnd 11 (libGAhead Γ ins n) (smAnd 14 (libGBacks Γ ins n) (smAnd 16 (libGLoop Γ ins n) (smAnd 18 (libGCyc Γ ins n) (smR (cxG n Γ ins) [CGNext.rc, CRSame17.rc, CRFixes18.rc])))))
theorem us_ok : SMsOk us := fun Γ ins n => qXi (tabsG n Γ ins) (qJn _) (qXm (libGAhead_ok CGNext.nextC Γ ins n) (qXm (libGBacks_ok CGNext.nextC Γ ins n) (qXm (libGLoop_ok CGNext.nextC Γ ins n) (qXm (libGCyc_ok CGNext.nextC Γ ins n) (qXe (tabsG n Γ ins) (qQn CGNext.okb (rc_n CGNext.ok) (qQn CRSame17.okb (rc_n CRSame17.ok) (qQn CRFixes18.okb (rc_n CRFixes18.ok) (qJo _)))))))))
def Q0 : E := (tC (.c 2415919104) (.c 0))
def Q1 : E := (tC (.c 2617245697) Q0)
def Q2 : E := (tC (.c 0) (tC (.c 1) (.c 0)))
def tree : TT (List E) :=
 (.new 1000 (.f 162 Q1 (.c 2) (.c 1)) (.new 1001 (.ite (te (.cl 1000 0 2) (.c 1)) (.f 32 (.f 163 Q1 (.c 2) (.c 1)) (tC (.c 0) (.c 0)) (.cl 1000 0 2)) (.c 0)) (.br (.cl 1001 0 1) (.br (.f 165 Q1 (.c 2) Q2) (.new 1002 (.f 166 Q1 (.c 2) (.c 0)) (.new 1003 (.ite (te (.cl 1002 0 2000) (.c 1)) (.f 149 (.f 167 Q1 (.c 2) (.c 0)) (tC (tC (.c 1) (tC (.c 0) (.c 0))) (.c 0)) (.cl 1002 0 2000)) (.c 0)) (.br (.cl 1003 0 1) (.br (.f 170 Q1 (.c 2) (.c 0)) (.new 1004 (.f 168 Q1 (.c 2) (.c 0)) (.new 1005 (.ite (te (.cl 1004 0 1000) (.c 2)) (.f 32 (.f 169 Q1 (.c 2) (.c 0)) Q2 (.cl 1004 0 1000)) (.c 0)) (.leaf [(.cl 1005 0 1)]))) (.leaf [(.c 0)])) (.leaf [(.c 0)])))) (.leaf [(.c 0)])) (.leaf [(.c 0)]))))
def P : Prop :=
 Pn (nxN (kZ 2617245697 (kZ 2415919104 0)) 2 1) 0 2 fun y0 => Pn (iteZ (Pe y0 1) (sameZ (nxZ (kZ 2617245697 (kZ 2415919104 0)) 2 1) (kZ 0 0) y0) 0) 0 1 fun y1 => (Pb y1 (Pb (ahdZ (kZ 2617245697 (kZ 2415919104 0)) 2 (kZ 0 (kZ 1 0))) (Pn (bkN (kZ 2617245697 (kZ 2415919104 0)) 2) 0 2000 fun y2 => Pn (iteZ (Pe y2 1) (smfZ (bkZ (kZ 2617245697 (kZ 2415919104 0)) 2) (kZ (kZ 1 (kZ 0 0)) 0) y2) 0) 0 1 fun y3 => (Pb y3 (Pb (cycZ (kZ 2617245697 (kZ 2415919104 0)) 2) (Pn (lpN (kZ 2617245697 (kZ 2415919104 0)) 2 0) 0 1000 fun y4 => Pn (iteZ (Pe y4 2) (sameZ (lpZ (kZ 2617245697 (kZ 2415919104 0)) 2 0) (kZ 0 (kZ 1 0)) y4) 0) 0 1 fun y5 => (((y5 : Int) ≠ 0 ↔ (1 : Int) ≠ 0) ∧ True)) Pf) Pf)) Pf) Pf)
theorem holds  : P := by
 delta P Pb Pn Pf Pe kZ
 simp only [show qQj 2617245697 (qQj 2415919104 0) = qA from rfl, aw_nxN, aw_nxZ, aw_bkN, aw_bkZ, aw_lpN, aw_lpZ]
 rintro y0 rfl - y1 rfl -
 refine ⟨fun _ => ⟨fun _ => ?_, fun h => absurd h aw_ahdZ⟩, fun h => ?_⟩
 ·rintro y2 rfl - y3 rfl -
  refine ⟨fun _ => ⟨fun _ => ?_, fun h => absurd h aw_cyc⟩, fun h => ?_⟩
  ·rintro y4 rfl - y5 rfl -
   simp [iteZ, qQz, sameZ_refl]
  ·simp [iteZ, qQz, smf_self] at h
 ·simp [iteZ, qQz, sameZ_refl] at h
theorem plain (i v ro p) : statR 2 rc tree ⟨i, fN, v, ro, p⟩ = P  := by kernel_rfl
theorem ran : ranR us (fun f _ => if [5].contains f then .unroll 400 else .auto) rc 2 tree = true := by kernel_rfl
theorem fineT : fineR 2 rc tree = true := by kernel_rfl
theorem ok : RcOk (cxOf 2) rc := okR us_ok ran fineT okb fun i v ro p hρ hcap hpre => by rw [plain]; have q := hρ.hi; exact holds
end CAwake18
end Go.Proofs.Ytacchdmnhfkekaa
