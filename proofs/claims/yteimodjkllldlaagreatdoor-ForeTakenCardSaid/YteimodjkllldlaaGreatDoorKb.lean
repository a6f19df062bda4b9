/-
  What functions of the program answer, as numbers of what they are handed: their runs by the engine, the plain statements behind them. No condition.
-/
import Derived.Test.YteimodjkllldlaaGreatDoorGab
import Derived.Test.YteimodjkllldlaaGreatDoorGib
import Derived.Test.YteimodjkllldlaaGreatDoorGmJ
import Derived.Test.YteimodjkllldlaaGreatDoorGmC
set_option linter.unusedVariables false
set_option linter.unusedSimpArgs false
set_option maxRecDepth 100000
namespace Go.Proofs.YteimodjkllldlaaGreatDoor
open Go.Eng Go.RowKit
namespace COFind
def rc : Rc := ⟨47, [none], [.str], [], .one, [.int .i64 (.f 90 (.v 0) (.c 0) (.c 0))]⟩
theorem okb : rc.ok = true := by kernel_rfl
noncomputable def us : SMs := fun Γ ins n => smH (cxG n Γ ins) [] (smAnd 46 (libFields Γ ins n) (smR (cxG n Γ ins) []))
theorem us_ok : SMsOk us := fun Γ ins n => qZp (tabsG n Γ ins) (qZj _) (smAnd_ok (libFields_ok Γ ins n) (qZm (tabsG n Γ ins) (qZx _)))
def Q0 : E := (tC (.c 100) (.c 0))
def Q1 : E := (tC (.c 115) (.c 0))
def Q2 : E := (tC (.c 98) Q1)
def Q3 : E := (tC (.c 114) (.c 0))
def Q4 : E := (tC (.c 111) Q3)
def Q5 : E := (tC (.c 108) (.c 0))
def Q6 : E := (tC (.c 116) (.c 0))
def Q7 : E := (tC (.c 108) Q6)
def Q8 : E := (tC (.c 113) (.c 0))
def Q9 : E := (tC (.c 101) Q8)
def Q10 : E := (tC (.c 110) (.c 0))
def Q11 : E := (tC (.c 104) (.c 0))
def Q12 : E := (tC (.c 105) (.c 0))
def Q13 : E := (tC (.c 119) (.c 0))
def Q14 : E := (tC (.c 112) (.c 0))
def tree : TT (List E) :=
 (.br (.f 20 (tC (.c 3) (tC (tC (.c 97) (tC (.c 100) Q0)) (.c 0))) (.v 0) (.c 0)) (.leaf [(.c 1)]) (.br (.f 20 (tC (.c 3) (tC (tC (.c 115) (tC (.c 117) (tC (.c 98) (.c 0)))) (.c 0))) (.v 0) (.c 0)) (.leaf [(.c 2)]) (.br (.f 20 (tC (.c 4) (tC (tC (.c 97) (tC (.c 100) (tC (.c 100) Q1))) (.c 0))) (.v 0) (.c 0)) (.leaf [(.c 3)]) (.br (.f 20 (tC (.c 4) (tC (tC (.c 115) (tC (.c 117) Q2)) (.c 0))) (.v 0) (.c 0)) (.leaf [(.c 4)]) (.br (.f 20 (tC (.c 3) (tC (tC (.c 97) (tC (.c 110) Q0)) (.c 0))) (.v 0) (.c 0)) (.leaf [(.c 5)]) (.br (.f 20 (tC (.c 2) (tC Q4 (.c 0))) (.v 0) (.c 0)) (.leaf [(.c 6)]) (.br (.f 20 (tC (.c 3) (tC (tC (.c 120) Q4) (.c 0))) (.v 0) (.c 0)) (.leaf [(.c 7)]) (.br (.f 20 (tC (.c 3) (tC (tC (.c 98) (tC (.c 105) (tC (.c 99) (.c 0)))) (.c 0))) (.v 0) (.c 0)) (.leaf [(.c 8)]) (.br
 (.f 20 (tC (.c 3) (tC (tC (.c 115) (tC (.c 104) Q5)) (.c 0))) (.v 0) (.c 0)) (.leaf [(.c 9)]) (.br (.f 20 (tC (.c 3) (tC (tC (.c 115) (tC (.c 104) Q3)) (.c 0))) (.v 0) (.c 0)) (.leaf [(.c 10)]) (.br (.f 20 (tC (.c 3) (tC (tC (.c 115) (tC (.c 97) Q3)) (.c 0))) (.v 0) (.c 0)) (.leaf [(.c 11)]) (.br (.f 20 (tC (.c 3) (tC (tC (.c 114) (tC (.c 111) Q5)) (.c 0))) (.v 0) (.c 0)) (.leaf [(.c 12)]) (.br (.f 20 (tC (.c 3) (tC (tC (.c 115) Q7) (.c 0))) (.v 0) (.c 0)) (.leaf [(.c 13)]) (.br (.f 20 (tC (.c 4) (tC (tC (.c 115) (tC (.c 108) (tC (.c 116) (tC (.c 117) (.c 0))))) (.c 0))) (.v 0) (.c 0)) (.leaf [(.c 14)]) (.br (.f 20 (tC (.c 3) (tC (tC (.c 115) Q9) (.c 0))) (.v 0) (.c 0)) (.leaf [(.c 15)]) (.br (.f 20 (tC (.c 3) (tC (tC (.c 109) (tC (.c 105) Q10)) (.c 0))) (.v 0) (.c 0)) (.leaf [(.c 16)])
 (.br (.f 20 (tC (.c 3) (tC (tC (.c 109) (tC (.c 97) (tC (.c 120) (.c 0)))) (.c 0))) (.v 0) (.c 0)) (.leaf [(.c 17)]) (.br (.f 20 (tC (.c 3) (tC (tC (.c 109) (tC (.c 117) Q5)) (.c 0))) (.v 0) (.c 0)) (.leaf [(.c 18)]) (.br (.f 20 (tC (.c 4) (tC (tC (.c 109) (tC (.c 117) (tC (.c 108) Q11))) (.c 0))) (.v 0) (.c 0)) (.leaf [(.c 19)]) (.br (.f 20 (tC (.c 4) (tC (tC (.c 109) (tC (.c 117) (tC (.c 108) Q8))) (.c 0))) (.v 0) (.c 0)) (.leaf [(.c 20)]) (.br (.f 20 (tC (.c 4) (tC (tC (.c 109) (tC (.c 117) (tC (.c 108) Q3))) (.c 0))) (.v 0) (.c 0)) (.leaf [(.c 21)]) (.br (.f 20 (tC (.c 3) (tC (tC (.c 100) (tC (.c 105) (tC (.c 118) (.c 0)))) (.c 0))) (.v 0) (.c 0)) (.leaf [(.c 22)]) (.br (.f 20 (tC (.c 3) (tC (tC (.c 114) (tC (.c 101) (tC (.c 109) (.c 0)))) (.c 0))) (.v 0) (.c 0)) (.leaf [(.c 23)])
 (.br (.f 20 (tC (.c 3) (tC (tC (.c 99) (tC (.c 108) (tC (.c 122) (.c 0)))) (.c 0))) (.v 0) (.c 0)) (.leaf [(.c 24)]) (.br (.f 20 (tC (.c 3) (tC (tC (.c 110) (tC (.c 101) (tC (.c 103) (.c 0)))) (.c 0))) (.v 0) (.c 0)) (.leaf [(.c 25)]) (.br (.f 20 (tC (.c 3) (tC (tC (.c 97) Q2) (.c 0))) (.v 0) (.c 0)) (.leaf [(.c 26)]) (.br (.f 20 (tC (.c 4) (tC (tC (.c 109) (tC (.c 97) (tC (.c 115) (tC (.c 107) (.c 0))))) (.c 0))) (.v 0) (.c 0)) (.leaf [(.c 27)]) (.br (.f 20 (tC (.c 4) (tC (tC (.c 115) (tC (.c 105) (tC (.c 103) Q10))) (.c 0))) (.v 0) (.c 0)) (.leaf [(.c 28)]) (.br (.f 20 (tC (.c 4) (tC (tC (.c 104) (tC (.c 97) (tC (.c 108) (tC (.c 102) (.c 0))))) (.c 0))) (.v 0) (.c 0)) (.leaf [(.c 29)]) (.br (.f 20 (tC (.c 4) (tC (tC (.c 104) (tC (.c 105) (tC (.c 103) Q11))) (.c 0))) (.v 0) (.c 0))
 (.leaf [(.c 30)]) (.br (.f 20 (tC (.c 4) (tC (tC (.c 97) (tC (.c 100) (tC (.c 100) Q12))) (.c 0))) (.v 0) (.c 0)) (.leaf [(.c 31)]) (.br (.f 20 (tC (.c 3) (tC (tC (.c 111) (tC (.c 114) Q12)) (.c 0))) (.v 0) (.c 0)) (.leaf [(.c 32)]) (.br (.f 20 (tC (.c 3) (tC (tC (.c 108) (tC (.c 117) Q12)) (.c 0))) (.v 0) (.c 0)) (.leaf [(.c 33)]) (.br (.f 20 (tC (.c 2) (tC (tC (.c 108) Q13) (.c 0))) (.v 0) (.c 0)) (.leaf [(.c 34)]) (.br (.f 20 (tC (.c 2) (tC (tC (.c 115) Q13) (.c 0))) (.v 0) (.c 0)) (.leaf [(.c 35)]) (.br (.f 20 (tC (.c 3) (tC (tC (.c 98) Q9) (.c 0))) (.v 0) (.c 0)) (.leaf [(.c 36)]) (.br (.f 20 (tC (.c 3) (tC (tC (.c 98) (tC (.c 110) (tC (.c 101) (.c 0)))) (.c 0))) (.v 0) (.c 0)) (.leaf [(.c 37)]) (.br (.f 20 (tC (.c 3) (tC (tC (.c 98) Q7) (.c 0))) (.v 0) (.c 0)) (.leaf [(.c 38)])
 (.br (.f 20 (tC (.c 4) (tC (tC (.c 106) (tC (.c 117) (tC (.c 109) Q14))) (.c 0))) (.v 0) (.c 0)) (.leaf [(.c 39)]) (.br (.f 20 (tC (.c 3) (tC (tC (.c 106) (tC (.c 97) Q5)) (.c 0))) (.v 0) (.c 0)) (.leaf [(.c 40)]) (.br (.f 20 (tC (.c 2) (tC (tC (.c 106) Q3) (.c 0))) (.v 0) (.c 0)) (.leaf [(.c 41)]) (.br (.f 20 (tC (.c 3) (tC (tC (.c 110) (tC (.c 111) Q14)) (.c 0))) (.v 0) (.c 0)) (.leaf [(.c 42)]) (.br (.f 20 (tC (.c 4) (tC (tC (.c 104) (tC (.c 97) Q7)) (.c 0))) (.v 0) (.c 0)) (.leaf [(.c 43)]) (.leaf [(.c 0)]))))))))))))))))))))))))))))))))))))))))))))
def P (a : Int) : Prop :=
 (Pb (seqZ (kZ 3 (kZ (kZ 97 (kZ 100 (kZ 100 0))) 0)) a) ((1 : Int) = (opfZ a) ∧ True) (Pb (seqZ (kZ 3 (kZ (kZ 115 (kZ 117 (kZ 98 0))) 0)) a) ((2 : Int) = (opfZ a) ∧ True) (Pb (seqZ (kZ 4 (kZ (kZ 97 (kZ 100 (kZ 100 (kZ 115 0)))) 0)) a) ((3 : Int) = (opfZ a) ∧ True) (Pb (seqZ (kZ 4 (kZ (kZ 115 (kZ 117 (kZ 98 (kZ 115 0)))) 0)) a) ((4 : Int) = (opfZ a) ∧ True) (Pb (seqZ (kZ 3 (kZ (kZ 97 (kZ 110 (kZ 100 0))) 0)) a) ((5 : Int) = (opfZ a) ∧ True) (Pb (seqZ (kZ 2 (kZ (kZ 111 (kZ 114 0)) 0)) a) ((6 : Int) = (opfZ a) ∧ True) (Pb (seqZ (kZ 3 (kZ (kZ 120 (kZ 111 (kZ 114 0))) 0)) a) ((7 : Int) = (opfZ a) ∧ True) (Pb (seqZ (kZ 3 (kZ (kZ 98 (kZ 105 (kZ 99 0))) 0)) a) ((8 : Int) = (opfZ a) ∧ True) (Pb (seqZ (kZ 3 (kZ (kZ 115 (kZ 104 (kZ 108 0))) 0)) a) ((9 : Int) = (opfZ a) ∧ True) (Pb (seqZ (kZ 3 (kZ
 (kZ 115 (kZ 104 (kZ 114 0))) 0)) a) ((10 : Int) = (opfZ a) ∧ True) (Pb (seqZ (kZ 3 (kZ (kZ 115 (kZ 97 (kZ 114 0))) 0)) a) ((11 : Int) = (opfZ a) ∧ True) (Pb (seqZ (kZ 3 (kZ (kZ 114 (kZ 111 (kZ 108 0))) 0)) a) ((12 : Int) = (opfZ a) ∧ True) (Pb (seqZ (kZ 3 (kZ (kZ 115 (kZ 108 (kZ 116 0))) 0)) a) ((13 : Int) = (opfZ a) ∧ True) (Pb (seqZ (kZ 4 (kZ (kZ 115 (kZ 108 (kZ 116 (kZ 117 0)))) 0)) a) ((14 : Int) = (opfZ a) ∧ True) (Pb (seqZ (kZ 3 (kZ (kZ 115 (kZ 101 (kZ 113 0))) 0)) a) ((15 : Int) = (opfZ a) ∧ True) (Pb (seqZ (kZ 3 (kZ (kZ 109 (kZ 105 (kZ 110 0))) 0)) a) ((16 : Int) = (opfZ a) ∧ True) (Pb (seqZ (kZ 3 (kZ (kZ 109 (kZ 97 (kZ 120 0))) 0)) a) ((17 : Int) = (opfZ a) ∧ True) (Pb (seqZ (kZ 3 (kZ (kZ 109 (kZ 117 (kZ 108 0))) 0)) a) ((18 : Int) = (opfZ a) ∧ True) (Pb (seqZ (kZ 4 (kZ (kZ 109
 (kZ 117 (kZ 108 (kZ 104 0)))) 0)) a) ((19 : Int) = (opfZ a) ∧ True) (Pb (seqZ (kZ 4 (kZ (kZ 109 (kZ 117 (kZ 108 (kZ 113 0)))) 0)) a) ((20 : Int) = (opfZ a) ∧ True) (Pb (seqZ (kZ 4 (kZ (kZ 109 (kZ 117 (kZ 108 (kZ 114 0)))) 0)) a) ((21 : Int) = (opfZ a) ∧ True) (Pb (seqZ (kZ 3 (kZ (kZ 100 (kZ 105 (kZ 118 0))) 0)) a) ((22 : Int) = (opfZ a) ∧ True) (Pb (seqZ (kZ 3 (kZ (kZ 114 (kZ 101 (kZ 109 0))) 0)) a) ((23 : Int) = (opfZ a) ∧ True) (Pb (seqZ (kZ 3 (kZ (kZ 99 (kZ 108 (kZ 122 0))) 0)) a) ((24 : Int) = (opfZ a) ∧ True) (Pb (seqZ (kZ 3 (kZ (kZ 110 (kZ 101 (kZ 103 0))) 0)) a) ((25 : Int) = (opfZ a) ∧ True) (Pb (seqZ (kZ 3 (kZ (kZ 97 (kZ 98 (kZ 115 0))) 0)) a) ((26 : Int) = (opfZ a) ∧ True) (Pb (seqZ (kZ 4 (kZ (kZ 109 (kZ 97 (kZ 115 (kZ 107 0)))) 0)) a) ((27 : Int) = (opfZ a) ∧ True) (Pb (seqZ
 (kZ 4 (kZ (kZ 115 (kZ 105 (kZ 103 (kZ 110 0)))) 0)) a) ((28 : Int) = (opfZ a) ∧ True) (Pb (seqZ (kZ 4 (kZ (kZ 104 (kZ 97 (kZ 108 (kZ 102 0)))) 0)) a) ((29 : Int) = (opfZ a) ∧ True) (Pb (seqZ (kZ 4 (kZ (kZ 104 (kZ 105 (kZ 103 (kZ 104 0)))) 0)) a) ((30 : Int) = (opfZ a) ∧ True) (Pb (seqZ (kZ 4 (kZ (kZ 97 (kZ 100 (kZ 100 (kZ 105 0)))) 0)) a) ((31 : Int) = (opfZ a) ∧ True) (Pb (seqZ (kZ 3 (kZ (kZ 111 (kZ 114 (kZ 105 0))) 0)) a) ((32 : Int) = (opfZ a) ∧ True) (Pb (seqZ (kZ 3 (kZ (kZ 108 (kZ 117 (kZ 105 0))) 0)) a) ((33 : Int) = (opfZ a) ∧ True) (Pb (seqZ (kZ 2 (kZ (kZ 108 (kZ 119 0)) 0)) a) ((34 : Int) = (opfZ a) ∧ True) (Pb (seqZ (kZ 2 (kZ (kZ 115 (kZ 119 0)) 0)) a) ((35 : Int) = (opfZ a) ∧ True) (Pb (seqZ (kZ 3 (kZ (kZ 98 (kZ 101 (kZ 113 0))) 0)) a) ((36 : Int) = (opfZ a) ∧ True) (Pb (seqZ
 (kZ 3 (kZ (kZ 98 (kZ 110 (kZ 101 0))) 0)) a) ((37 : Int) = (opfZ a) ∧ True) (Pb (seqZ (kZ 3 (kZ (kZ 98 (kZ 108 (kZ 116 0))) 0)) a) ((38 : Int) = (opfZ a) ∧ True) (Pb (seqZ (kZ 4 (kZ (kZ 106 (kZ 117 (kZ 109 (kZ 112 0)))) 0)) a) ((39 : Int) = (opfZ a) ∧ True) (Pb (seqZ (kZ 3 (kZ (kZ 106 (kZ 97 (kZ 108 0))) 0)) a) ((40 : Int) = (opfZ a) ∧ True) (Pb (seqZ (kZ 2 (kZ (kZ 106 (kZ 114 0)) 0)) a) ((41 : Int) = (opfZ a) ∧ True) (Pb (seqZ (kZ 3 (kZ (kZ 110 (kZ 111 (kZ 112 0))) 0)) a) ((42 : Int) = (opfZ a) ∧ True) (Pb (seqZ (kZ 4 (kZ (kZ 104 (kZ 97 (kZ 108 (kZ 116 0)))) 0)) a) ((43 : Int) = (opfZ a) ∧ True) ((0 : Int) = (opfZ a) ∧ True))))))))))))))))))))))))))))))))))))))))))))
set_option maxHeartbeats 4000000 in
theorem holds (s0 : Int) : P s0 := by
 delta P Pb kZ
 generalize hX : opfZ s0 = X
 replace hX : X = opF opNames 1 s0 := hX.symm
 refine ⟨fun h => ⟨qZh hX rfl rfl h, trivial⟩, fun h => ?_⟩
 replace hX := qZi hX rfl h
 refine ⟨fun h => ⟨qZh hX rfl rfl h, trivial⟩, fun h => ?_⟩
 replace hX := qZi hX rfl h
 refine ⟨fun h => ⟨qZh hX rfl rfl h, trivial⟩, fun h => ?_⟩
 replace hX := qZi hX rfl h
 refine ⟨fun h => ⟨qZh hX rfl rfl h, trivial⟩, fun h => ?_⟩
 replace hX := qZi hX rfl h
 refine ⟨fun h => ⟨qZh hX rfl rfl h, trivial⟩, fun h => ?_⟩
 replace hX := qZi hX rfl h
 refine ⟨fun h => ⟨qZh hX rfl rfl h, trivial⟩, fun h => ?_⟩
 replace hX := qZi hX rfl h
 refine ⟨fun h => ⟨qZh hX rfl rfl h, trivial⟩, fun h => ?_⟩
 replace hX := qZi hX rfl h
 refine ⟨fun h => ⟨qZh hX rfl rfl h, trivial⟩, fun h => ?_⟩
 replace hX := qZi hX rfl h
 refine ⟨fun h => ⟨qZh hX rfl rfl h, trivial⟩, fun h => ?_⟩
 replace hX := qZi hX rfl h
 refine ⟨fun h => ⟨qZh hX rfl rfl h, trivial⟩, fun h => ?_⟩
 replace hX := qZi hX rfl h
 refine ⟨fun h => ⟨qZh hX rfl rfl h, trivial⟩, fun h => ?_⟩
 replace hX := qZi hX rfl h
 refine ⟨fun h => ⟨qZh hX rfl rfl h, trivial⟩, fun h => ?_⟩
 replace hX := qZi hX rfl h
 refine ⟨fun h => ⟨qZh hX rfl rfl h, trivial⟩, fun h => ?_⟩
 replace hX := qZi hX rfl h
 refine ⟨fun h => ⟨qZh hX rfl rfl h, trivial⟩, fun h => ?_⟩
 replace hX := qZi hX rfl h
 refine ⟨fun h => ⟨qZh hX rfl rfl h, trivial⟩, fun h => ?_⟩
 replace hX := qZi hX rfl h
 refine ⟨fun h => ⟨qZh hX rfl rfl h, trivial⟩, fun h => ?_⟩
 replace hX := qZi hX rfl h
 refine ⟨fun h => ⟨qZh hX rfl rfl h, trivial⟩, fun h => ?_⟩
 replace hX := qZi hX rfl h
 refine ⟨fun h => ⟨qZh hX rfl rfl h, trivial⟩, fun h => ?_⟩
 replace hX := qZi hX rfl h
 refine ⟨fun h => ⟨qZh hX rfl rfl h, trivial⟩, fun h => ?_⟩
 replace hX := qZi hX rfl h
 refine ⟨fun h => ⟨qZh hX rfl rfl h, trivial⟩, fun h => ?_⟩
 replace hX := qZi hX rfl h
 refine ⟨fun h => ⟨qZh hX rfl rfl h, trivial⟩, fun h => ?_⟩
 replace hX := qZi hX rfl h
 refine ⟨fun h => ⟨qZh hX rfl rfl h, trivial⟩, fun h => ?_⟩
 replace hX := qZi hX rfl h
 refine ⟨fun h => ⟨qZh hX rfl rfl h, trivial⟩, fun h => ?_⟩
 replace hX := qZi hX rfl h
 refine ⟨fun h => ⟨qZh hX rfl rfl h, trivial⟩, fun h => ?_⟩
 replace hX := qZi hX rfl h
 refine ⟨fun h => ⟨qZh hX rfl rfl h, trivial⟩, fun h => ?_⟩
 replace hX := qZi hX rfl h
 refine ⟨fun h => ⟨qZh hX rfl rfl h, trivial⟩, fun h => ?_⟩
 replace hX := qZi hX rfl h
 refine ⟨fun h => ⟨qZh hX rfl rfl h, trivial⟩, fun h => ?_⟩
 replace hX := qZi hX rfl h
 refine ⟨fun h => ⟨qZh hX rfl rfl h, trivial⟩, fun h => ?_⟩
 replace hX := qZi hX rfl h
 refine ⟨fun h => ⟨qZh hX rfl rfl h, trivial⟩, fun h => ?_⟩
 replace hX := qZi hX rfl h
 refine ⟨fun h => ⟨qZh hX rfl rfl h, trivial⟩, fun h => ?_⟩
 replace hX := qZi hX rfl h
 refine ⟨fun h => ⟨qZh hX rfl rfl h, trivial⟩, fun h => ?_⟩
 replace hX := qZi hX rfl h
 refine ⟨fun h => ⟨qZh hX rfl rfl h, trivial⟩, fun h => ?_⟩
 replace hX := qZi hX rfl h
 refine ⟨fun h => ⟨qZh hX rfl rfl h, trivial⟩, fun h => ?_⟩
 replace hX := qZi hX rfl h
 refine ⟨fun h => ⟨qZh hX rfl rfl h, trivial⟩, fun h => ?_⟩
 replace hX := qZi hX rfl h
 refine ⟨fun h => ⟨qZh hX rfl rfl h, trivial⟩, fun h => ?_⟩
 replace hX := qZi hX rfl h
 refine ⟨fun h => ⟨qZh hX rfl rfl h, trivial⟩, fun h => ?_⟩
 replace hX := qZi hX rfl h
 refine ⟨fun h => ⟨qZh hX rfl rfl h, trivial⟩, fun h => ?_⟩
 replace hX := qZi hX rfl h
 refine ⟨fun h => ⟨qZh hX rfl rfl h, trivial⟩, fun h => ?_⟩
 replace hX := qZi hX rfl h
 refine ⟨fun h => ⟨qZh hX rfl rfl h, trivial⟩, fun h => ?_⟩
 replace hX := qZi hX rfl h
 refine ⟨fun h => ⟨qZh hX rfl rfl h, trivial⟩, fun h => ?_⟩
 replace hX := qZi hX rfl h
 refine ⟨fun h => ⟨qZh hX rfl rfl h, trivial⟩, fun h => ?_⟩
 replace hX := qZi hX rfl h
 refine ⟨fun h => ⟨qZh hX rfl rfl h, trivial⟩, fun h => ?_⟩
 replace hX := qZi hX rfl h
 refine ⟨fun h => ⟨qZh hX rfl rfl h, trivial⟩, fun h => ?_⟩
 replace hX := qZi hX rfl h
 exact ⟨hX.symm, trivial⟩
theorem plain (i v ro p) : statR 2 rc tree ⟨i, fN, v, ro, p⟩ = P (i 0) := by kernel_rfl
theorem ran : ranR us (fun f _ => if [47, 89].contains f then .unroll 400 else .auto) rc 2 tree = true := by kernel_rfl
theorem fineT : fineR 2 rc tree = true := by kernel_rfl
theorem ok : RcOk (cxOf 2) rc := okR us_ok ran fineT okb fun i v ro p hρ hcap hpre => by rw [plain]; have q := hρ.hi; exact holds _
end COFind
namespace COLeaks
def rc : Rc := ⟨24, [none], [.int .i64], [], .one, [.bool (.f 89 (.v 0) (.c 0) (.c 0))]⟩
theorem okb : rc.ok = true := by kernel_rfl
noncomputable def us : SMs := fun Γ ins n => smH (cxG n Γ ins) [] (smAnd 46 (libFields Γ ins n) (smR (cxG n Γ ins) [COFind.rc]))
theorem us_ok : SMsOk us := fun Γ ins n => qZp (tabsG n Γ ins) (qZj _) (smAnd_ok (libFields_ok Γ ins n) (qZm (tabsG n Γ ins) (qQo COFind.okb (rc_n COFind.ok) (qZx _))))
def Q0 : E := (tC (.c 119) (.c 0))
def tree : TT (List E) :=
 (.br (tl (.c 1) (.v 0)) (.br (.nt (tl (.v 0) (.c 43))) (.leaf [(.c 0)]) (.new 1000 (.f 90 (tC (.c 3) (tC (tC (.c 100) (tC (.c 105) (tC (.c 118) (.c 0)))) (.c 0))) (.c 0) (.c 0)) (.br (te (.cl 1000 0 44) (.v 0)) (.leaf [(.c 1)]) (.new 1001 (.f 90 (tC (.c 3) (tC (tC (.c 114) (tC (.c 101) (tC (.c 109) (.c 0)))) (.c 0))) (.c 0) (.c 0)) (.br (te (.cl 1001 0 44) (.v 0)) (.leaf [(.c 1)]) (.new 1002 (.f 90 (tC (.c 2) (tC (tC (.c 108) Q0) (.c 0))) (.c 0) (.c 0)) (.br (te (.cl 1002 0 44) (.v 0)) (.leaf [(.c 1)]) (.new 1003 (.f 90 (tC (.c 2) (tC (tC (.c 115) Q0) (.c 0))) (.c 0) (.c 0)) (.br (te (.cl 1003 0 44) (.v 0)) (.leaf [(.c 1)]) (.new 1004 (.f 90 (tC (.c 3) (tC (tC (.c 98) (tC (.c 101) (tC (.c 113) (.c 0)))) (.c 0))) (.c 0) (.c 0)) (.br (te (.cl 1004 0 44) (.v 0)) (.leaf [(.c 1)]) (.new 1005
 (.f 90 (tC (.c 3) (tC (tC (.c 98) (tC (.c 110) (tC (.c 101) (.c 0)))) (.c 0))) (.c 0) (.c 0)) (.br (te (.cl 1005 0 44) (.v 0)) (.leaf [(.c 1)]) (.new 1006 (.f 90 (tC (.c 3) (tC (tC (.c 98) (tC (.c 108) (tC (.c 116) (.c 0)))) (.c 0))) (.c 0) (.c 0)) (.br (te (.cl 1006 0 44) (.v 0)) (.leaf [(.c 1)]) (.new 1007 (.f 90 (tC (.c 2) (tC (tC (.c 106) (tC (.c 114) (.c 0))) (.c 0))) (.c 0) (.c 0)) (.br (te (.cl 1007 0 44) (.v 0)) (.leaf [(.c 1)]) (.leaf [(.c 0)])))))))))))))))))) (.leaf [(.c 0)]))
def P (a : Int) : Prop :=
 (Pb (PL 1 a) (Pb (Pe (PL a 43) 0) (((0 : Int) ≠ 0 ↔ ((lkZ a) : Int) ≠ 0) ∧ True) (Pn (opfZ (kZ 3 (kZ (kZ 100 (kZ 105 (kZ 118 0))) 0))) 0 44 fun y0 => (Pb (Pe y0 a) (((1 : Int) ≠ 0 ↔ ((lkZ a) : Int) ≠ 0) ∧ True) (Pn (opfZ (kZ 3 (kZ (kZ 114 (kZ 101 (kZ 109 0))) 0))) 0 44 fun y1 => (Pb (Pe y1 a) (((1 : Int) ≠ 0 ↔ ((lkZ a) : Int) ≠ 0) ∧ True) (Pn (opfZ (kZ 2 (kZ (kZ 108 (kZ 119 0)) 0))) 0 44 fun y2 => (Pb (Pe y2 a) (((1 : Int) ≠ 0 ↔ ((lkZ a) : Int) ≠ 0) ∧ True) (Pn (opfZ (kZ 2 (kZ (kZ 115 (kZ 119 0)) 0))) 0 44 fun y3 => (Pb (Pe y3 a) (((1 : Int) ≠ 0 ↔ ((lkZ a) : Int) ≠ 0) ∧ True) (Pn (opfZ (kZ 3 (kZ (kZ 98 (kZ 101 (kZ 113 0))) 0))) 0 44 fun y4 => (Pb (Pe y4 a) (((1 : Int) ≠ 0 ↔ ((lkZ a) : Int) ≠ 0) ∧ True) (Pn (opfZ (kZ 3 (kZ (kZ 98 (kZ 110 (kZ 101 0))) 0))) 0 44 fun y5 => (Pb (Pe y5 a) (((1
 : Int) ≠ 0 ↔ ((lkZ a) : Int) ≠ 0) ∧ True) (Pn (opfZ (kZ 3 (kZ (kZ 98 (kZ 108 (kZ 116 0))) 0))) 0 44 fun y6 => (Pb (Pe y6 a) (((1 : Int) ≠ 0 ↔ ((lkZ a) : Int) ≠ 0) ∧ True) (Pn (opfZ (kZ 2 (kZ (kZ 106 (kZ 114 0)) 0))) 0 44 fun y7 => (Pb (Pe y7 a) (((1 : Int) ≠ 0 ↔ ((lkZ a) : Int) ≠ 0) ∧ True) (((0 : Int) ≠ 0 ↔ ((lkZ a) : Int) ≠ 0) ∧ True)))))))))))))))))) (((0 : Int) ≠ 0 ↔ ((lkZ a) : Int) ≠ 0) ∧ True))
theorem holds (p0 : Int) (l_p0 : -9223372036854775808 ≤ p0) (u_p0 : p0 ≤ 9223372036854775807) : P p0 := by
 delta P Pb Pn PL Pe kZ
 have e1 : opfZ (qQq 3 (qQq (qQq 100 (qQq 105 (qQq 118 0))) 0)) = 22 := opf_at [100, 105, 118] (by decide)
 have e2 : opfZ (qQq 3 (qQq (qQq 114 (qQq 101 (qQq 109 0))) 0)) = 23 := opf_at [114, 101, 109] (by decide)
 have e3 : opfZ (qQq 2 (qQq (qQq 108 (qQq 119 0)) 0)) = 34 := opf_at [108, 119] (by decide)
 have e4 : opfZ (qQq 2 (qQq (qQq 115 (qQq 119 0)) 0)) = 35 := opf_at [115, 119] (by decide)
 have e5 : opfZ (qQq 3 (qQq (qQq 98 (qQq 101 (qQq 113 0))) 0)) = 36 := opf_at [98, 101, 113] (by decide)
 have e6 : opfZ (qQq 3 (qQq (qQq 98 (qQq 110 (qQq 101 0))) 0)) = 37 := opf_at [98, 110, 101] (by decide)
 have e7 : opfZ (qQq 3 (qQq (qQq 98 (qQq 108 (qQq 116 0))) 0)) = 38 := opf_at [98, 108, 116] (by decide)
 have e8 : opfZ (qQq 2 (qQq (qQq 106 (qQq 114 0)) 0)) = 41 := opf_at [106, 114] (by decide)
 have hk : lkZ p0 = 0 ↔ ¬ lkP p0 := by unfold lkZ; by_cases h : lkP p0 <;> simp [h]
 simp only [e1, e2, e3, e4, e5, e6, e7, e8, nrm, Int.reduceEq, Int.reduceNeg, reduceIte]
 simp only [hk, ne_eq, Decidable.not_not, lkP]
 simp
 clear e1 e2 e3 e4 e5 e6 e7 e8 hk
 omega
theorem plain (i v ro p) : statR 2 rc tree ⟨i, fN, v, ro, p⟩ = P (i 0) := by kernel_rfl
theorem ran : ranR us (fun f _ => if [24].contains f then .unroll 400 else .auto) rc 2 tree = true := by kernel_rfl
theorem fineT : fineR 2 rc tree = true := by kernel_rfl
theorem ok : RcOk (cxOf 2) rc := okR us_ok ran fineT okb fun i v ro p hρ hcap hpre => by rw [plain]; have q := hρ.hi; exact holds _ (q 0 _ rfl).1 (q 0 _ rfl).2
end COLeaks
namespace CFTold
def rk : Rk := ⟨12, [(1, 43), (0, 31), (0, 31), (0, 31), (-32768, 65535), (-9223372036854775808, 9223372036854775807), (0, 0), (0, 16384), (0, 999999), (0, 2048)], 14, [.ptr 0 0, .agg [.int .i64 (.v 0), .int .i64 (.v 1), .int .i64 (.v 2), .int .i64 (.v 3), .int .i64 (.v 4)]], [.cells (([.sl (.own 1) 5 (.c 0) (.v 7) none] : List SV) ++ bkM (.v 11) ++ ([.sl (.own 2) 2 (.c 0) (.v 9) none, .sl (.own 3) 3 (.c 0) (.v 8) none, .int .i64 (.v 6), .int .i64 (.v 5)] : List SV)) 53 none, .arr [.int .i64, .int .i64, .int .i64, .int .i64, .int .i64] 55 (.v 10) (.v 7), .arr [.int .i32, .bool] 49 (.v 12) (.v 9), .arr [.int .i64, .int .i64, .int .i64] 44 (.v 13) (.v 8)], [], .bool (.v 1000000), [.cells (([.sl (.own 1) 5 (.c 0) (.v 7) none] : List SV) ++ bkM (.v 11) ++ ([.sl (.own 2) 2 (.c 0) (.v 9) none, .sl (.own 3) 3 (.c 0) (.v 8) none, .int .i64 (.v 6), .int .i64 (.v 5)] : List SV)) 53 none, .arr [.int .i64, .int .i64, .int .i64, .int .i64, .int .i64] 55 (.v 10) (.v 7), .arr [.int .i32, .bool] 49 (.v 12) (.v 9), .arr [.int .i64, .int .i64, .int .i64] 44 (.v 13) (.v 8)], [.bool (.f 93 (.v 0) (.v 1) (qQv [(.v 2), (.v 3), (.v 11)]))], []⟩
theorem okk : rk.ok = true := by kernel_rfl
theorem okh : rk.rh.ok = true := by kernel_rfl
noncomputable def us : SMs := fun Γ ins n => smH (cxG n Γ ins) [] (smR (cxG n Γ ins) [COLeaks.rc])
theorem us_ok : SMsOk us := fun Γ ins n => qZp (tabsG n Γ ins) (qZj _) (qZm (tabsG n Γ ins) (qQo COLeaks.okb (rc_n COLeaks.ok) (qZx _)))
def Q0 : E := (tR (.v 11) (.v 2))
def Q1 : E := (tR Q0 (.c 1))
def Q2 : E := (tR (.v 11) (.v 3))
def Q3 : E := (tR Q2 (.c 1))
def Q4 : E := (tR (.v 11) (.v 1))
def Q5 : E := (tR Q4 (.c 1))
def tree : TT (List E) :=
 (.br (te (.v 0) (.c 22)) (.br Q1 (.leaf [Q3]) (.leaf [(.c 0)])) (.br (te (.v 0) (.c 23)) (.br Q1 (.leaf [Q3]) (.leaf [(.c 0)])) (.br (te (.v 0) (.c 36)) (.br Q5 (.leaf [Q1]) (.leaf [(.c 0)])) (.br (te (.v 0) (.c 37)) (.br Q5 (.leaf [Q1]) (.leaf [(.c 0)])) (.br (te (.v 0) (.c 38)) (.br Q5 (.leaf [Q1]) (.leaf [(.c 0)])) (.br Q1 (.leaf [(.c 1)]) (.leaf [(.nt (.f 89 (.v 0) (.c 0) (.c 0)))])))))))
def sq0 (l b c a d : Int) : Prop := (Pb (rdZ (rdZ l b) 1) ((((rdZ (rdZ l c) 1) : Int) ≠ 0 ↔ ((ftoZ a b (kZ c (kZ d (kZ l 0)))) : Int) ≠ 0) ∧ True) (((0 : Int) ≠ 0 ↔ ((ftoZ a b (kZ c (kZ d (kZ l 0)))) : Int) ≠ 0) ∧ True))
def sq1 (l c d a b : Int) : Prop := (Pb (rdZ (rdZ l c) 1) ((((rdZ (rdZ l d) 1) : Int) ≠ 0 ↔ ((ftoZ a b (kZ c (kZ d (kZ l 0)))) : Int) ≠ 0) ∧ True) (((0 : Int) ≠ 0 ↔ ((ftoZ a b (kZ c (kZ d (kZ l 0)))) : Int) ≠ 0) ∧ True))
def P (a b c d e f g h i j k l n o : Int) : Prop :=
 (Pb (Pe a 22) (sq1 l c d a b) (Pb (Pe a 23) (sq1 l c d a b) (Pb (Pe a 36) (sq0 l b c a d) (Pb (Pe a 37) (sq0 l b c a d) (Pb (Pe a 38) (sq0 l b c a d) (Pb (rdZ (rdZ l c) 1) (((1 : Int) ≠ 0 ↔ ((ftoZ a b (kZ c (kZ d (kZ l 0)))) : Int) ≠ 0) ∧ True) ((((Pe (lkZ a) 0) : Int) ≠ 0 ↔ ((ftoZ a b (kZ c (kZ d (kZ l 0)))) : Int) ≠ 0) ∧ True)))))))
theorem holds (op d a b n pc st nc nm nr cq rg rm mq : Int) (l_op : 1 ≤ op) (u_op : op ≤ 43) (l_d : 0 ≤ d) (u_d : d ≤ 31) (l_a : 0 ≤ a) (u_a : a ≤ 31) (l_b : 0 ≤ b) (u_b : b ≤ 31) (l_n : -32768 ≤ n) (u_n : n ≤ 65535) (l_pc : -9223372036854775808 ≤ pc) (u_pc : pc ≤ 9223372036854775807) (l_st : 0 ≤ st) (u_st : st ≤ 0) (l_nc : 0 ≤ nc) (u_nc : nc ≤ 16384) (l_nm : 0 ≤ nm) (u_nm : nm ≤ 999999) (l_nr : 0 ≤ nr) (u_nr : nr ≤ 2048) : P op d a b n pc st nc nm nr cq rg rm mq := by
 delta P sq0 sq1 Pb Pe kZ
 simp only [fto_ev]
 have hk : lkZ op = 0 ↔ ¬ lkP op := by unfold lkZ; by_cases h : lkP op <;> simp [h]
 by_cases h1 : op = 22
 ·simp [qQz, h1]; grind
 by_cases h2 : op = 23
 ·simp [qQz, h2]; grind
 by_cases h3 : op = 36
 ·simp [qQz, h3]; grind
 by_cases h4 : op = 37
 ·simp [qQz, h4]; grind
 by_cases h5 : op = 38
 ·simp [qQz, h5]; grind
 simp [qQz, h1, h2, h3, h4, h5, hk]; grind
theorem plain (i v ro p) : statH 2 rk tree ⟨i, fN, v, ro, p⟩ = P (i 0) (i 1) (i 2) (i 3) (i 4) (i 5) (i 6) (i 7) (i 8) (i 9) (i 10) (i 11) (i 12) (i 13) := by kernel_rfl
theorem ran : ranH us (fun _ _ => .auto) rk 2 tree = true := by kernel_rfl
theorem fineT : fineH 2 rk tree = true := by kernel_rfl
theorem ok : RhOk (cxOf 2) rk.rh := okH us_ok ran fineT (by kernel_rfl) okk fun i v ro p hρ hpre => by rw [plain]; have q := hρ.hi; exact holds _ _ _ _ _ _ _ _ _ _ _ _ _ _ (q 0 _ rfl).1 (q 0 _ rfl).2 (q 1 _ rfl).1 (q 1 _ rfl).2 (q 2 _ rfl).1 (q 2 _ rfl).2 (q 3 _ rfl).1 (q 3 _ rfl).2 (q 4 _ rfl).1 (q 4 _ rfl).2 (q 5 _ rfl).1 (q 5 _ rfl).2 (q 6 _ rfl).1 (q 6 _ rfl).2 (q 7 _ rfl).1 (q 7 _ rfl).2 (q 8 _ rfl).1 (q 8 _ rfl).2 (q 9 _ rfl).1 (q 9 _ rfl).2
end CFTold
namespace COCost
def rc : Rc := ⟨51, [none], [.int .i64], [], .one, [.int .i64 (.f 66 (.v 0) (.c 0) (.c 0))]⟩
theorem okb : rc.ok = true := by kernel_rfl
noncomputable def us : SMs := fun Γ ins n => smH (cxG n Γ ins) [] (smR (cxG n Γ ins) [])
theorem us_ok : SMsOk us := fun Γ ins n => qZp (tabsG n Γ ins) (qZj _) (qZm (tabsG n Γ ins) (qZx _))
def tree : TT (List E) :=
(.br (.b .le .i64 (.c 1) (.v 0))
 (.br (.nt (.b .le .i64 (.v 0) (.c 43)))
 (.leaf [(.c 0)])
 (.br (.b .le .i64 (.c 0) (.w .i64 (.b .psub .i64 (.v 0) (.c 1))))
 (.br (.b .lt .i64 (.w .i64 (.b .psub .i64 (.v 0) (.c 1))) (.c 43))
 (.leaf [(.w .i64 (.f 13 (.f 11 (.c 1) (.f 11 (.c 1) (.f 11 (.c 1) (.f 11 (.c 1) (.f 11 (.c 1) (.f 11 (.c 1) (.f 11 (.c 1) (.f 11 (.c 1) (.f 11 (.c 1) (.f 11 (.c 1) (.f 11 (.c 1) (.f 11 (.c 1) (.f 11 (.c 1) (.f 11 (.c 1) (.f 11 (.c 1) (.f 11 (.c 1) (.f 11 (.c 1) (.f 11 (.c 3) (.f 11 (.c 3) (.f 11 (.c 3) (.f 11 (.c 3) (.f 11 (.c 2) (.f 11 (.c 2) (.f 11 (.c 1) (.f 11 (.c 1) (.f 11 (.c 1) (.f 11 (.c 1) (.f 11 (.c 1) (.f 11 (.c 1) (.f 11 (.c 1) (.f 11 (.c 1) (.f 11 (.c 1) (.f 11 (.c 1) (.f 11 (.c 2) (.f 11 (.c 2) (.f 11 (.c 1) (.f 11 (.c 1) (.f 11 (.c 1) (.f 11 (.c 3) (.f 11 (.c 3) (.f 11 (.c 3) (.f 11 (.c 1) (.f 11 (.c 1) (.c 0) (.c 0)) (.c 0)) (.c 0)) (.c 0)) (.c 0)) (.c 0)) (.c 0)) (.c 0)) (.c 0)) (.c 0)) (.c 0)) (.c 0)) (.c 0)) (.c 0)) (.c 0)) (.c 0)) (.c 0)) (.c 0)) (.c 0)) (.c 0)) (.c 0)) (.c 0)) (.c 0)) (.c 0)) (.c 0)) (.c 0)) (.c 0)) (.c 0)) (.c 0)) (.c 0)) (.c 0)) (.c 0)) (.c 0)) (.c 0)) (.c 0)) (.c 0)) (.c 0)) (.c 0)) (.c 0)) (.c 0)) (.c 0)) (.c 0)) (.c 0)) (.w .i64 (.b .psub .i64 (.v 0) (.c 1))) (.c 0)))])
 (.bad 200))
 (.bad 200)))
 (.leaf [(.c 0)]))
def P (p0 : Int) : Prop :=
 (((qQz (decide (1 ≤ p0))) ≠ 0 →
  (((qQz ((qQz (decide (p0 ≤ 43))) == 0)) ≠ 0 →
   (0 : Int) = (opCo p0) ∧ True) ∧ ((qQz ((qQz (decide (p0 ≤ 43))) == 0)) = 0 →
   (((qQz (decide (0 ≤ (IntKind.wrap .i64 (p0 - 1))))) ≠ 0 →
    (((qQz (decide ((IntKind.wrap .i64 (p0 - 1)) < 43))) ≠ 0 →
     ((IntKind.wrap .i64 (rdZ (qQq 1 (qQq 1 (qQq 1 (qQq 1 (qQq 1 (qQq 1 (qQq 1 (qQq 1 (qQq 1 (qQq 1 (qQq 1 (qQq 1 (qQq 1 (qQq 1 (qQq 1 (qQq 1 (qQq 1 (qQq 3 (qQq 3 (qQq 3 (qQq 3 (qQq 2 (qQq 2 (qQq 1 (qQq 1 (qQq 1 (qQq 1 (qQq 1 (qQq 1 (qQq 1 (qQq 1 (qQq 1 (qQq 1 (qQq 2 (qQq 2 (qQq 1 (qQq 1 (qQq 1 (qQq 3 (qQq 3 (qQq 3 (qQq 1 (qQq 1 0))))))))))))))))))))))))))))))))))))))))))) (IntKind.wrap .i64 (p0 - 1)))) : Int) = (opCo p0) ∧ True) ∧ ((qQz (decide ((IntKind.wrap .i64 (p0 - 1)) < 43))) = 0 →
     False))) ∧ ((qQz (decide (0 ≤ (IntKind.wrap .i64 (p0 - 1))))) = 0 →
    False))))) ∧ ((qQz (decide (1 ≤ p0))) = 0 →
  (0 : Int) = (opCo p0) ∧ True))
def costL : List Int := [1, 1, 1, 1, 1, 1, 1, 1, 1, 1, 1, 1, 1, 1, 1, 1, 1, 3, 3, 3, 3, 2, 2, 1, 1, 1, 1, 1, 1, 1, 1, 1, 1, 2, 2, 1, 1, 1, 3, 3, 3, 1, 1]
theorem cost_all : ∀ k : Fin 43, costL.getD k 0 = opCo ((k.val : Int) + 1) := by decide
theorem cost_rd {p : Int} (h1 : 1 ≤ p) (h2 : p ≤ 43) : IntKind.wrap .i64 (rdZ (chn costL) (IntKind.wrap .i64 (p - 1))) = opCo p := by
 rw [w64 (x := p - 1) (by omega) (by omega)]
 have e : p - 1 = ((p - 1).toNat : Nat) := by omega
 rw [e, qXa, cost_all ⟨(p - 1).toNat, by omega⟩]
 have := opCo_bd (((⟨(p - 1).toNat, by omega⟩ : Fin 43).val : Int) + 1)
 rw [w64 (by omega) (by omega)]
 congr 1
 show ((p - 1).toNat : Int) + 1 = p
 omega
theorem holds (p0 : Int) (l_p0 : -9223372036854775808 ≤ p0) (u_p0 : p0 ≤ 9223372036854775807) : P p0 := by
 unfold P
 simp only [nrm, Int.reduceEq, Int.reduceNeg, reduceIte]
 have e : ∀ p, p < 1 ∨ 43 < p → (0 : Int) = opCo p := fun p h => by unfold opCo; rw [if_pos h]
 refine ⟨fun h1 => ⟨fun h2 => e _ (by omega), fun h2 => ?_⟩, fun h1 => e _ (by omega)⟩
 have hw : IntKind.wrap .i64 (p0 - 1) = p0 - 1 := w64 (by omega) (by omega)
 exact ⟨fun h3 => ⟨fun h4 => cost_rd h1 (by omega), fun h4 => by omega⟩, fun h3 => by omega⟩
theorem plain (i v ro p) : statR 2 rc tree ⟨i, fN, v, ro, p⟩ = P (i 0) := by kernel_rfl
theorem ran : ranR us (fun _ _ => .auto) rc 2 tree = true := by kernel_rfl
theorem fineT : fineR 2 rc tree = true := by kernel_rfl
theorem ok : RcOk (cxOf 2) rc := okR us_ok ran fineT okb fun i v ro p hρ hcap hpre => by rw [plain]; have q := hρ.hi; exact holds _ (q 0 _ rfl).1 (q 0 _ rfl).2
end COCost
namespace CFPut
def rk : Rk := ⟨27, [(0, 31), (-2147483648, 2147483647), (-9223372036854775808, 9223372036854775807), (0, 0), (0, 16384), (0, 999999), (0, 2048)], 12, [.ptr 0 0, .int .i64 (.v 0), .agg [.int .i32 (.v 1), .bool (.v 11)]], [.cells (([.sl (.own 1) 5 (.c 0) (.v 4) none] : List SV) ++ bkM (.v 8) ++ ([.sl (.own 2) 2 (.c 0) (.v 6) none, .sl (.own 3) 3 (.c 0) (.v 5) none, .int .i64 (.v 3), .int .i64 (.v 2)] : List SV)) 53 none, .arr [.int .i64, .int .i64, .int .i64, .int .i64, .int .i64] 55 (.v 7) (.v 4), .arr [.int .i32, .bool] 49 (.v 9) (.v 6), .arr [.int .i64, .int .i64, .int .i64] 44 (.v 10) (.v 5)], [], .tup [], [.cells (([.sl (.own 1) 5 (.c 0) (.v 4) none] : List SV) ++ bkM (.v 1000000) ++ ([.sl (.own 2) 2 (.c 0) (.v 6) none, .sl (.own 3) 3 (.c 0) (.v 5) none, .int .i64 (.v 3), .int .i64 (.v 2)] : List SV)) 53 none, .arr [.int .i64, .int .i64, .int .i64, .int .i64, .int .i64] 55 (.v 7) (.v 4), .arr [.int .i32, .bool] 49 (.v 9) (.v 6), .arr [.int .i64, .int .i64, .int .i64] 44 (.v 10) (.v 5)], [.code [.int .i32, .bool] (.f 91 (.v 8) (.v 0) (qQv [(.v 1), (.v 11)])) (.c 32)], []⟩
theorem okk : rk.ok = true := by kernel_rfl
theorem okh : rk.rh.ok = true := by kernel_rfl
noncomputable def us : SMs := fun Γ ins n => smH (cxG n Γ ins) [] (smR (cxG n Γ ins) [])
theorem us_ok : SMsOk us := fun Γ ins n => qZp (tabsG n Γ ins) (qZj _) (qZm (tabsG n Γ ins) (qZx _))
def tree : TT (List E) :=
(.br (.b .ne .i64 (.v 0) (.c 0))
 (.leaf [(.f 14 (.v 8) (.v 0) (.f 11 (.v 1) (.f 11 (.v 11) (.c 0) (.c 0)) (.c 0)))])
 (.leaf [(.v 8)]))
def P (i x pc st nc nm nr cq rg rm mq k : Int) : Prop :=
 (((qQz (i != 0)) ≠ 0 →
  qZa [.int .i32, .bool] (updZ rg i (qQq x (qQq k 0))) (fpuZ rg i (qQq x (qQq k 0))) 32 ∧ True) ∧ ((qQz (i != 0)) = 0 →
  qZa [.int .i32, .bool] rg (fpuZ rg i (qQq x (qQq k 0))) 32 ∧ True))
theorem holds (i x pc st nc nm nr cq rg rm mq k : Int) (l_i : 0 ≤ i) (u_i : i ≤ 31) (l_x : -2147483648 ≤ x) (u_x : x ≤ 2147483647) (l_pc : -9223372036854775808 ≤ pc) (u_pc : pc ≤ 9223372036854775807) (l_st : 0 ≤ st) (u_st : st ≤ 0) (l_nc : 0 ≤ nc) (u_nc : nc ≤ 16384) (l_nm : 0 ≤ nm) (u_nm : nm ≤ 999999) (l_nr : 0 ≤ nr) (u_nr : nr ≤ 2048) : P i x pc st nc nm nr cq rg rm mq k := by
 unfold P
 simp only [nrm, Int.reduceEq, Int.reduceNeg, reduceIte]
 rw [fpu_ev]
 refine ⟨fun h => ?_, fun h => ?_⟩
 ·rw [if_pos h]; exact qQd _ _ _
 ·rw [if_neg (by omega)]; exact qQd _ _ _
theorem plain (i v ro p) : statH 2 rk tree ⟨i, fN, v, ro, p⟩ = P (i 0) (i 1) (i 2) (i 3) (i 4) (i 5) (i 6) (i 7) (i 8) (i 9) (i 10) (i 11) := by kernel_rfl
theorem ran : ranH us (fun _ _ => .auto) rk 2 tree = true := by kernel_rfl
theorem fineT : fineH 2 rk tree = true := by kernel_rfl
theorem ok : RhOk (cxOf 2) rk.rh := okH us_ok ran fineT (by kernel_rfl) okk fun i v ro p hρ hpre => by rw [plain]; have q := hρ.hi; exact holds _ _ _ _ _ _ _ _ _ _ _ _ (q 0 _ rfl).1 (q 0 _ rfl).2 (q 1 _ rfl).1 (q 1 _ rfl).2 (q 2 _ rfl).1 (q 2 _ rfl).2 (q 3 _ rfl).1 (q 3 _ rfl).2 (q 4 _ rfl).1 (q 4 _ rfl).2 (q 5 _ rfl).1 (q 5 _ rfl).2 (q 6 _ rfl).1 (q 6 _ rfl).2
end CFPut
end Go.Proofs.YteimodjkllldlaaGreatDoor
