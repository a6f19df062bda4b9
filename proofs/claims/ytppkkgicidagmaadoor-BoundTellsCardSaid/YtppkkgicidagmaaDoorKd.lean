/-
  What functions of the program answer, as numbers of what they are handed: their runs by the engine, the plain statements behind them. No condition.
-/
import Derived.Test.YtppkkgicidagmaaDoorGab
import Derived.Test.YtppkkgicidagmaaDoorGp1
set_option linter.unusedVariables false
set_option linter.unusedSimpArgs false
set_option maxRecDepth 100000
namespace Go.Proofs.YtppkkgicidagmaaDoor
open Go.Eng Go.RowKit
namespace CRCost6
def rc : Rc := ⟨26, [none], [.int .i64], [], .one, [.int .i64 (.f 66 (.v 0) (.c 0) (.c 0))]⟩
theorem okb : rc.ok = true := by kernel_rfl
noncomputable def us : SMs := fun Γ ins n => smH (cxG n Γ ins) [] (smR (cxG n Γ ins) [])
theorem us_ok : SMsOk us := fun Γ ins n => qXu (tabsG n Γ ins) (qJp _) (qXm (tabsG n Γ ins) (qJs _))
def Q0 : E := (.b .psub .i64 (.v 0) (.c 1))
def Q1 : E := (t6 Q0)
def Q2 : E := (tC (.c 100) (.c 0))
def Q3 : E := (tC (.c 115) (.c 0))
def Q4 : E := (tC (.c 98) Q3)
def Q5 : E := (tC (.c 114) (.c 0))
def Q6 : E := (tC (.c 111) Q5)
def Q7 : E := (tC (.c 108) (.c 0))
def Q8 : E := (tC (.c 116) (.c 0))
def Q9 : E := (tC (.c 108) Q8)
def Q10 : E := (tC (.c 113) (.c 0))
def Q11 : E := (tC (.c 101) Q10)
def Q12 : E := (tC (.c 110) (.c 0))
def Q13 : E := (tC (.c 104) (.c 0))
def Q14 : E := (tC (.c 105) (.c 0))
def Q15 : E := (tC (.c 119) (.c 0))
def Q16 : E := (tC (.c 112) (.c 0))
def tree : TT (List E) :=
 (.br (tk (.v 0) (.c 1)) (.leaf [(.c 0)]) (.br (tk (.c 43) (.v 0)) (.leaf [(.c 0)]) (.br (tl (.c 0) Q1) (.br (tk Q1 (.c 43)) (.br (.f 20 (tR (tC (tC (.c 3) (tC (tC (.c 97) (tC (.c 100) Q2)) (.c 0))) (tC (tC (.c 3) (tC (tC (.c 115) (tC (.c 117) (tC (.c 98) (.c 0)))) (.c 0))) (tC (tC (.c 4) (tC (tC (.c 97) (tC (.c 100) (tC (.c 100) Q3))) (.c 0))) (tC (tC (.c 4) (tC (tC (.c 115) (tC (.c 117) Q4)) (.c 0))) (tC (tC (.c 3) (tC (tC (.c 97) (tC (.c 110) Q2)) (.c 0))) (tC (tC (.c 2) (tC Q6 (.c 0))) (tC (tC (.c 3) (tC (tC (.c 120) Q6) (.c 0))) (tC (tC (.c 3) (tC (tC (.c 98) (tC (.c 105) (tC (.c 99) (.c 0)))) (.c 0))) (tC (tC (.c 3) (tC (tC (.c 115) (tC (.c 104) Q7)) (.c 0))) (tC (tC (.c 3) (tC (tC (.c 115) (tC (.c 104) Q5)) (.c 0))) (tC (tC (.c 3) (tC (tC (.c 115) (tC (.c 97) Q5)) (.c 0))) (tC (tC
 (.c 3) (tC (tC (.c 114) (tC (.c 111) Q7)) (.c 0))) (tC (tC (.c 3) (tC (tC (.c 115) Q9) (.c 0))) (tC (tC (.c 4) (tC (tC (.c 115) (tC (.c 108) (tC (.c 116) (tC (.c 117) (.c 0))))) (.c 0))) (tC (tC (.c 3) (tC (tC (.c 115) Q11) (.c 0))) (tC (tC (.c 3) (tC (tC (.c 109) (tC (.c 105) Q12)) (.c 0))) (tC (tC (.c 3) (tC (tC (.c 109) (tC (.c 97) (tC (.c 120) (.c 0)))) (.c 0))) (tC (tC (.c 3) (tC (tC (.c 109) (tC (.c 117) Q7)) (.c 0))) (tC (tC (.c 4) (tC (tC (.c 109) (tC (.c 117) (tC (.c 108) Q13))) (.c 0))) (tC (tC (.c 4) (tC (tC (.c 109) (tC (.c 117) (tC (.c 108) Q10))) (.c 0))) (tC (tC (.c 4) (tC (tC (.c 109) (tC (.c 117) (tC (.c 108) Q5))) (.c 0))) (tC (tC (.c 3) (tC (tC (.c 100) (tC (.c 105) (tC (.c 118) (.c 0)))) (.c 0))) (tC (tC (.c 3) (tC (tC (.c 114) (tC (.c 101) (tC (.c 109) (.c 0)))) (.c
 0))) (tC (tC (.c 3) (tC (tC (.c 99) (tC (.c 108) (tC (.c 122) (.c 0)))) (.c 0))) (tC (tC (.c 3) (tC (tC (.c 110) (tC (.c 101) (tC (.c 103) (.c 0)))) (.c 0))) (tC (tC (.c 3) (tC (tC (.c 97) Q4) (.c 0))) (tC (tC (.c 4) (tC (tC (.c 109) (tC (.c 97) (tC (.c 115) (tC (.c 107) (.c 0))))) (.c 0))) (tC (tC (.c 4) (tC (tC (.c 115) (tC (.c 105) (tC (.c 103) Q12))) (.c 0))) (tC (tC (.c 4) (tC (tC (.c 104) (tC (.c 97) (tC (.c 108) (tC (.c 102) (.c 0))))) (.c 0))) (tC (tC (.c 4) (tC (tC (.c 104) (tC (.c 105) (tC (.c 103) Q13))) (.c 0))) (tC (tC (.c 4) (tC (tC (.c 97) (tC (.c 100) (tC (.c 100) Q14))) (.c 0))) (tC (tC (.c 3) (tC (tC (.c 111) (tC (.c 114) Q14)) (.c 0))) (tC (tC (.c 3) (tC (tC (.c 108) (tC (.c 117) Q14)) (.c 0))) (tC (tC (.c 2) (tC (tC (.c 108) Q15) (.c 0))) (tC (tC (.c 2) (tC (tC (.c
 115) Q15) (.c 0))) (tC (tC (.c 3) (tC (tC (.c 98) Q11) (.c 0))) (tC (tC (.c 3) (tC (tC (.c 98) (tC (.c 110) (tC (.c 101) (.c 0)))) (.c 0))) (tC (tC (.c 3) (tC (tC (.c 98) Q9) (.c 0))) (tC (tC (.c 4) (tC (tC (.c 106) (tC (.c 117) (tC (.c 109) Q16))) (.c 0))) (tC (tC (.c 3) (tC (tC (.c 106) (tC (.c 97) Q7)) (.c 0))) (tC (tC (.c 2) (tC (tC (.c 106) Q5) (.c 0))) (tC (tC (.c 3) (tC (tC (.c 110) (tC (.c 111) Q16)) (.c 0))) (tC (tC (.c 4) (tC (tC (.c 104) (tC (.c 97) Q9)) (.c 0))) (.c 0)))))))))))))))))))))))))))))))))))))))))))) Q1) (tC (.c 0) (tC (.c 0) (.c 0))) (.c 0)) (.leaf [(.c 0)]) (.br (te (.c 18) (.v 0)) (.leaf [(.c 3)]) (.br (te (.c 19) (.v 0)) (.leaf [(.c 3)]) (.br (te (.c 20) (.v 0)) (.leaf [(.c 3)]) (.br (te (.c 21) (.v 0)) (.leaf [(.c 3)]) (.br (te (.c 39) (.v 0)) (.leaf [(.c 3)])
 (.br (te (.c 40) (.v 0)) (.leaf [(.c 3)]) (.br (te (.c 41) (.v 0)) (.leaf [(.c 3)]) (.br (te (.c 22) (.v 0)) (.leaf [(.c 2)]) (.br (te (.c 23) (.v 0)) (.leaf [(.c 2)]) (.br (te (.c 34) (.v 0)) (.leaf [(.c 2)]) (.br (te (.c 35) (.v 0)) (.leaf [(.c 2)]) (.leaf [(.c 1)]))))))))))))) (.bad 200)) (.bad 200))))
def P (a : Int) : Prop :=
 (Pb (Pl a 1) ((0 : Int) = (opCo a) ∧ True) (Pb (Pl 43 a) ((0 : Int) = (opCo a) ∧ True) (Pm (PL 0 (W6 (a - 1))) (Pm (Pl (W6 (a - 1)) 43) (Pb (seqZ (rdZ (kZ (kZ 3 (kZ (kZ 97 (kZ 100 (kZ 100 0))) 0)) (kZ (kZ 3 (kZ (kZ 115 (kZ 117 (kZ 98 0))) 0)) (kZ (kZ 4 (kZ (kZ 97 (kZ 100 (kZ 100 (kZ 115 0)))) 0)) (kZ (kZ 4 (kZ (kZ 115 (kZ 117 (kZ 98 (kZ 115 0)))) 0)) (kZ (kZ 3 (kZ (kZ 97 (kZ 110 (kZ 100 0))) 0)) (kZ (kZ 2 (kZ (kZ 111 (kZ 114 0)) 0)) (kZ (kZ 3 (kZ (kZ 120 (kZ 111 (kZ 114 0))) 0)) (kZ (kZ 3 (kZ (kZ 98 (kZ 105 (kZ 99 0))) 0)) (kZ (kZ 3 (kZ (kZ 115 (kZ 104 (kZ 108 0))) 0)) (kZ (kZ 3 (kZ (kZ 115 (kZ 104 (kZ 114 0))) 0)) (kZ (kZ 3 (kZ (kZ 115 (kZ 97 (kZ 114 0))) 0)) (kZ (kZ 3 (kZ (kZ 114 (kZ 111 (kZ 108 0))) 0)) (kZ (kZ 3 (kZ (kZ 115 (kZ 108 (kZ 116 0))) 0)) (kZ (kZ 4 (kZ (kZ 115 (kZ 108 (kZ
 116 (kZ 117 0)))) 0)) (kZ (kZ 3 (kZ (kZ 115 (kZ 101 (kZ 113 0))) 0)) (kZ (kZ 3 (kZ (kZ 109 (kZ 105 (kZ 110 0))) 0)) (kZ (kZ 3 (kZ (kZ 109 (kZ 97 (kZ 120 0))) 0)) (kZ (kZ 3 (kZ (kZ 109 (kZ 117 (kZ 108 0))) 0)) (kZ (kZ 4 (kZ (kZ 109 (kZ 117 (kZ 108 (kZ 104 0)))) 0)) (kZ (kZ 4 (kZ (kZ 109 (kZ 117 (kZ 108 (kZ 113 0)))) 0)) (kZ (kZ 4 (kZ (kZ 109 (kZ 117 (kZ 108 (kZ 114 0)))) 0)) (kZ (kZ 3 (kZ (kZ 100 (kZ 105 (kZ 118 0))) 0)) (kZ (kZ 3 (kZ (kZ 114 (kZ 101 (kZ 109 0))) 0)) (kZ (kZ 3 (kZ (kZ 99 (kZ 108 (kZ 122 0))) 0)) (kZ (kZ 3 (kZ (kZ 110 (kZ 101 (kZ 103 0))) 0)) (kZ (kZ 3 (kZ (kZ 97 (kZ 98 (kZ 115 0))) 0)) (kZ (kZ 4 (kZ (kZ 109 (kZ 97 (kZ 115 (kZ 107 0)))) 0)) (kZ (kZ 4 (kZ (kZ 115 (kZ 105 (kZ 103 (kZ 110 0)))) 0)) (kZ (kZ 4 (kZ (kZ 104 (kZ 97 (kZ 108 (kZ 102 0)))) 0)) (kZ (kZ 4 (kZ (kZ 104
 (kZ 105 (kZ 103 (kZ 104 0)))) 0)) (kZ (kZ 4 (kZ (kZ 97 (kZ 100 (kZ 100 (kZ 105 0)))) 0)) (kZ (kZ 3 (kZ (kZ 111 (kZ 114 (kZ 105 0))) 0)) (kZ (kZ 3 (kZ (kZ 108 (kZ 117 (kZ 105 0))) 0)) (kZ (kZ 2 (kZ (kZ 108 (kZ 119 0)) 0)) (kZ (kZ 2 (kZ (kZ 115 (kZ 119 0)) 0)) (kZ (kZ 3 (kZ (kZ 98 (kZ 101 (kZ 113 0))) 0)) (kZ (kZ 3 (kZ (kZ 98 (kZ 110 (kZ 101 0))) 0)) (kZ (kZ 3 (kZ (kZ 98 (kZ 108 (kZ 116 0))) 0)) (kZ (kZ 4 (kZ (kZ 106 (kZ 117 (kZ 109 (kZ 112 0)))) 0)) (kZ (kZ 3 (kZ (kZ 106 (kZ 97 (kZ 108 0))) 0)) (kZ (kZ 2 (kZ (kZ 106 (kZ 114 0)) 0)) (kZ (kZ 3 (kZ (kZ 110 (kZ 111 (kZ 112 0))) 0)) (kZ (kZ 4 (kZ (kZ 104 (kZ 97 (kZ 108 (kZ 116 0)))) 0)) 0))))))))))))))))))))))))))))))))))))))))))) (W6 (a - 1))) (kZ 0 (kZ 0 0))) ((0 : Int) = (opCo a) ∧ True) (Pb (Pe 18 a) ((3 : Int) = (opCo a) ∧ True) (Pb (Pe
 19 a) ((3 : Int) = (opCo a) ∧ True) (Pb (Pe 20 a) ((3 : Int) = (opCo a) ∧ True) (Pb (Pe 21 a) ((3 : Int) = (opCo a) ∧ True) (Pb (Pe 39 a) ((3 : Int) = (opCo a) ∧ True) (Pb (Pe 40 a) ((3 : Int) = (opCo a) ∧ True) (Pb (Pe 41 a) ((3 : Int) = (opCo a) ∧ True) (Pb (Pe 22 a) ((2 : Int) = (opCo a) ∧ True) (Pb (Pe 23 a) ((2 : Int) = (opCo a) ∧ True) (Pb (Pe 34 a) ((2 : Int) = (opCo a) ∧ True) (Pb (Pe 35 a) ((2 : Int) = (opCo a) ∧ True) ((1 : Int) = (opCo a) ∧ True)))))))))))))))))
def AllS : List Int → Prop
 | [] => True
 | x :: l => (∃ n y, x = qQq n y ∧ 1 ≤ n ∧ n ≤ 10) ∧ AllS l
theorem AllS.get : ∀ {l : List Int}, AllS l → ∀ k, k < l.length → ∃ n y, l.getD k 0 = qQq n y ∧ 1 ≤ n ∧ n ≤ 10
 | x :: l, h, 0, _ => h.1
 | x :: l, h, k + 1, hk => by
  have := h.2.get k (by simpa using hk)
  simpa using this
noncomputable def nmL : List Int := [(qQq 3 (qQq (qQq 97 (qQq 100 (qQq 100 0))) 0)), (qQq 3 (qQq (qQq 115 (qQq 117 (qQq 98 0))) 0)), (qQq 4 (qQq (qQq 97 (qQq 100 (qQq 100 (qQq 115 0)))) 0)), (qQq 4 (qQq (qQq 115 (qQq 117 (qQq 98 (qQq 115 0)))) 0)), (qQq 3 (qQq (qQq 97 (qQq 110 (qQq 100 0))) 0)), (qQq 2 (qQq (qQq 111 (qQq 114 0)) 0)), (qQq 3 (qQq (qQq 120 (qQq 111 (qQq 114 0))) 0)), (qQq 3 (qQq (qQq 98 (qQq 105 (qQq 99 0))) 0)), (qQq 3 (qQq (qQq 115 (qQq 104 (qQq 108 0))) 0)), (qQq 3 (qQq (qQq 115 (qQq 104 (qQq 114 0))) 0)), (qQq 3 (qQq (qQq 115 (qQq 97 (qQq 114 0))) 0)), (qQq 3 (qQq (qQq 114 (qQq 111 (qQq 108 0))) 0)), (qQq 3 (qQq (qQq 115 (qQq 108 (qQq 116 0))) 0)), (qQq 4 (qQq (qQq 115 (qQq 108 (qQq 116 (qQq 117 0)))) 0)), (qQq 3 (qQq (qQq 115 (qQq 101 (qQq 113 0))) 0)), (qQq 3 (qQq (qQq 109 (qQq 105 (qQq 110 0))) 0)), (qQq 3 (qQq (qQq 109 (qQq 97 (qQq 120 0))) 0)), (qQq 3 (qQq (qQq 109 (qQq 117 (qQq 108 0))) 0)), (qQq 4 (qQq (qQq 109 (qQq 117 (qQq 108 (qQq 104 0)))) 0)), (qQq 4 (qQq (qQq 109 (qQq 117 (qQq 108 (qQq 113 0)))) 0)), (qQq 4 (qQq (qQq 109 (qQq 117 (qQq 108 (qQq 114 0)))) 0)), (qQq 3 (qQq (qQq 100 (qQq 105 (qQq 118 0))) 0)), (qQq 3 (qQq (qQq 114 (qQq 101 (qQq 109 0))) 0)), (qQq 3 (qQq (qQq 99 (qQq 108 (qQq 122 0))) 0)), (qQq 3 (qQq (qQq 110 (qQq 101 (qQq 103 0))) 0)), (qQq 3 (qQq (qQq 97 (qQq 98 (qQq 115 0))) 0)), (qQq 4 (qQq (qQq 109 (qQq 97 (qQq 115 (qQq 107 0)))) 0)), (qQq 4 (qQq (qQq 115 (qQq 105 (qQq 103 (qQq 110 0)))) 0)), (qQq 4 (qQq (qQq 104 (qQq 97 (qQq 108 (qQq 102 0)))) 0)), (qQq 4 (qQq (qQq 104 (qQq 105 (qQq 103 (qQq 104 0)))) 0)), (qQq 4 (qQq (qQq 97 (qQq 100 (qQq 100 (qQq 105 0)))) 0)), (qQq 3 (qQq (qQq 111 (qQq 114 (qQq 105 0))) 0)), (qQq 3 (qQq (qQq 108 (qQq 117 (qQq 105 0))) 0)), (qQq 2 (qQq (qQq 108 (qQq 119 0)) 0)), (qQq 2 (qQq (qQq 115 (qQq 119 0)) 0)), (qQq 3 (qQq (qQq 98 (qQq 101 (qQq 113 0))) 0)), (qQq 3 (qQq (qQq 98 (qQq 110 (qQq 101 0))) 0)), (qQq 3 (qQq (qQq 98 (qQq 108 (qQq 116 0))) 0)), (qQq 4 (qQq (qQq 106 (qQq 117 (qQq 109 (qQq 112 0)))) 0)), (qQq 3 (qQq (qQq 106 (qQq 97 (qQq 108 0))) 0)), (qQq 2 (qQq (qQq 106 (qQq 114 0)) 0)), (qQq 3 (qQq (qQq 110 (qQq 111 (qQq 112 0))) 0)), (qQq 4 (qQq (qQq 104 (qQq 97 (qQq 108 (qQq 116 0)))) 0))]
theorem nm_all : AllS nmL := by
 unfold nmL
 repeat (first | trivial | refine ⟨⟨_, _, rfl, by decide, by decide⟩, ?_⟩)
theorem nm_no {k : Int} (h0 : 0 ≤ k) (h1 : k < 43) : ¬ seqZ (rdZ (chn nmL) k) (qQq 0 (qQq 0 0)) ≠ 0 := by
 rw [show k = ((k.toNat : Nat) : Int) by omega, rd_chn]
 obtain ⟨n, y, h, h2, h3⟩ := nm_all.get k.toNat (by show k.toNat < 43; omega)
 rw [h]
 intro hs
 have hz := (seq_empty _).1 hs
 rw [slen_cons] at hz
 rw [if_neg (by omega), if_neg (by unfold qXj; omega)] at hz
 omega
set_option maxRecDepth 100000 in
theorem holds (p0 : Int) (l_p0 : -9223372036854775808 ≤ p0) (u_p0 : p0 ≤ 9223372036854775807) : P p0 := by
 delta P Pb Pm PL Pl Pe W6 kZ
 have wk : 1 ≤ p0 → p0 ≤ 43 → IntKind.wrap .i64 (p0 - 1) = p0 - 1 := fun a b => w64 (by omega) (by omega)
 simp only [nrm, Int.reduceEq, Int.reduceNeg, reduceIte]
 have op : ∀ c, opCo p0 = c → c = opCo p0 := fun c h => h.symm
 refine ⟨fun h => ?_, fun h => ⟨fun h2 => ?_, fun h2 => ?_⟩⟩
 ·unfold opCo; rw [if_pos (by omega)]
 ·unfold opCo; rw [if_pos (by omega)]
 ·rw [wk (by omega) (by omega)]
  refine ⟨fun _ => ⟨fun _ => ⟨fun h3 => absurd h3 (nm_no (by omega) (by omega)), fun _ => ?_⟩, fun h => by omega⟩, fun h => by omega⟩
  unfold opCo
  rw [if_neg (by omega)]
  repeat' (first | refine ⟨fun _ => ?_, fun _ => ?_⟩ | fail)
  all_goals (repeat' split) <;> omega
theorem plain (i v ro p) : statR 2 rc tree ⟨i, fN, v, ro, p⟩ = P (i 0) := by kernel_rfl
theorem ran : ranR us (fun f _ => if [42].contains f then .unroll 400 else .auto) rc 2 tree = true := by kernel_rfl
theorem fineT : fineR 2 rc tree = true := by kernel_rfl
theorem ok : RcOk (cxOf 2) rc := okR us_ok ran fineT okb fun i v ro p hρ hcap hpre => by rw [plain]; have q := hρ.hi; exact holds _ (q 0 _ rfl).1 (q 0 _ rfl).2
theorem costC (n : Nat) (Γ : List (Int × Int)) (ins : List InD) : CostC (cxG n Γ ins) 26 := costC_of (tabsG n Γ ins) (rc_n ok) (fun _ _ _ => rfl)
end CRCost6
end Go.Proofs.YtppkkgicidagmaaDoor
