/-
  What functions of the program answer, as numbers of what they are handed: their runs by the engine, the plain statements behind them. No condition.
-/
import Derived.Test.YtppiabilakeadaaGreatDoorKa
import Derived.Test.YtppiabilakeadaaGreatDoorGab
import Derived.Test.YtppiabilakeadaaGreatDoorGib
import Derived.Test.YtppiabilakeadaaGreatDoorGp1
import Derived.Test.YtppiabilakeadaaGreatDoorGp3
set_option linter.unusedVariables false
set_option linter.unusedSimpArgs false
set_option maxRecDepth 100000
namespace Go.Proofs.YtppiabilakeadaaGreatDoor
open Go.Eng Go.RowKit
namespace COFind
def rc : Rc := ⟨24, [none], [.str], [], .one, [.int .i64 (.f 90 (.v 0) (.c 0) (.c 0))]⟩
theorem okb : rc.ok = true := by kernel_rfl
noncomputable def us : SMs := fun Γ ins n => smH (cxG n Γ ins) [] (smAnd 51 (libFields Γ ins n) (smR (cxG n Γ ins) []))
theorem us_ok : SMsOk us := fun Γ ins n => qZb (tabsG n Γ ins) (qQs _) (smAnd_ok (libFields_ok Γ ins n) (qZw (tabsG n Γ ins) (qQt _)))
def Q0 : E := (tC (.c 100) (.c 0))
def Q1 : E := (tC (.c 115) (.c 0))
def Q2 : E := (tC (.c 98) Q1)
def Q3 : E := (tC (.c 114) (.c 0))
def Q4 : E := (tC (.c 111) Q3)
def Q5 : E := (tC (.c 108) (.c 0))
def Q6 : E := (tC (.c 116) (.c 0))
def Q7 : E := (tC (.c 108) Q6)
def Q8 : E := (tC (.c 113) (.c 0))
def Q9 : E := (tC (.c 101) Q8)
def Q10 : E := (tC (.c 110) (.c 0))
def Q11 : E := (tC (.c 104) (.c 0))
def Q12 : E := (tC (.c 105) (.c 0))
def Q13 : E := (tC (.c 119) (.c 0))
def Q14 : E := (tC (.c 112) (.c 0))
def tree : TT (List E) :=
 (.br (.f 20 (tC (.c 3) (tC (tC (.c 97) (tC (.c 100) Q0)) (.c 0))) (.v 0) (.c 0)) (.leaf [(.c 1)]) (.br (.f 20 (tC (.c 3) (tC (tC (.c 115) (tC (.c 117) (tC (.c 98) (.c 0)))) (.c 0))) (.v 0) (.c 0)) (.leaf [(.c 2)]) (.br (.f 20 (tC (.c 4) (tC (tC (.c 97) (tC (.c 100) (tC (.c 100) Q1))) (.c 0))) (.v 0) (.c 0)) (.leaf [(.c 3)]) (.br (.f 20 (tC (.c 4) (tC (tC (.c 115) (tC (.c 117) Q2)) (.c 0))) (.v 0) (.c 0)) (.leaf [(.c 4)]) (.br (.f 20 (tC (.c 3) (tC (tC (.c 97) (tC (.c 110) Q0)) (.c 0))) (.v 0) (.c 0)) (.leaf [(.c 5)]) (.br (.f 20 (tC (.c 2) (tC Q4 (.c 0))) (.v 0) (.c 0)) (.leaf [(.c 6)]) (.br (.f 20 (tC (.c 3) (tC (tC (.c 120) Q4) (.c 0))) (.v 0) (.c 0)) (.leaf [(.c 7)]) (.br (.f 20 (tC (.c 3) (tC (tC (.c 98) (tC (.c 105) (tC (.c 99) (.c 0)))) (.c 0))) (.v 0) (.c 0)) (.leaf [(.c 8)]) (.br
 (.f 20 (tC (.c 3) (tC (tC (.c 115) (tC (.c 104) Q5)) (.c 0))) (.v 0) (.c 0)) (.leaf [(.c 9)]) (.br (.f 20 (tC (.c 3) (tC (tC (.c 115) (tC (.c 104) Q3)) (.c 0))) (.v 0) (.c 0)) (.leaf [(.c 10)]) (.br (.f 20 (tC (.c 3) (tC (tC (.c 115) (tC (.c 97) Q3)) (.c 0))) (.v 0) (.c 0)) (.leaf [(.c 11)]) (.br (.f 20 (tC (.c 3) (tC (tC (.c 114) (tC (.c 111) Q5)) (.c 0))) (.v 0) (.c 0)) (.leaf [(.c 12)]) (.br (.f 20 (tC (.c 3) (tC (tC (.c 115) Q7) (.c 0))) (.v 0) (.c 0)) (.leaf [(.c 13)]) (.br (.f 20 (tC (.c 4) (tC (tC (.c 115) (tC (.c 108) (tC (.c 116) (tC (.c 117) (.c 0))))) (.c 0))) (.v 0) (.c 0)) (.leaf [(.c 14)]) (.br (.f 20 (tC (.c 3) (tC (tC (.c 115) Q9) (.c 0))) (.v 0) (.c 0)) (.leaf [(.c 15)]) (.br (.f 20 (tC (.c 3) (tC (tC (.c 109) (tC (.c 105) Q10)) (.c 0))) (.v 0) (.c 0)) (.leaf [(.c 16)])
 (.br (.f 20 (tC (.c 3) (tC (tC (.c 109) (tC (.c 97) (tC (.c 120) (.c 0)))) (.c 0))) (.v 0) (.c 0)) (.leaf [(.c 17)]) (.br (.f 20 (tC (.c 3) (tC (tC (.c 109) (tC (.c 117) Q5)) (.c 0))) (.v 0) (.c 0)) (.leaf [(.c 18)]) (.br (.f 20 (tC (.c 4) (tC (tC (.c 109) (tC (.c 117) (tC (.c 108) Q11))) (.c 0))) (.v 0) (.c 0)) (.leaf [(.c 19)]) (.br (.f 20 (tC (.c 4) (tC (tC (.c 109) (tC (.c 117) (tC (.c 108) Q8))) (.c 0))) (.v 0) (.c 0)) (.leaf [(.c 20)]) (.br (.f 20 (tC (.c 4) (tC (tC (.c 109) (tC (.c 117) (tC (.c 108) Q3))) (.c 0))) (.v 0) (.c 0)) (.leaf [(.c 21)]) (.br (.f 20 (tC (.c 3) (tC (tC (.c 100) (tC (.c 105) (tC (.c 118) (.c 0)))) (.c 0))) (.v 0) (.c 0)) (.leaf [(.c 22)]) (.br (.f 20 (tC (.c 3) (tC (tC (.c 114) (tC (.c 101) (tC (.c 109) (.c 0)))) (.c 0))) (.v 0) (.c 0)) (.leaf [(.c 23)])
 (.br (.f 20 (tC (.c 3) (tC (tC (.c 99) (tC (.c 108) (tC (.c 122) (.c 0)))) (.c 0))) (.v 0) (.c 0)) (.leaf [(.c 24)]) (.br (.f 20 (tC (.c 3) (tC (tC (.c 110) (tC (.c 101) (tC (.c 103) (.c 0)))) (.c 0))) (.v 0) (.c 0)) (.leaf [(.c 25)]) (.br (.f 20 (tC (.c 3) (tC (tC (.c 97) Q2) (.c 0))) (.v 0) (.c 0)) (.leaf [(.c 26)]) (.br (.f 20 (tC (.c 4) (tC (tC (.c 109) (tC (.c 97) (tC (.c 115) (tC (.c 107) (.c 0))))) (.c 0))) (.v 0) (.c 0)) (.leaf [(.c 27)]) (.br (.f 20 (tC (.c 4) (tC (tC (.c 115) (tC (.c 105) (tC (.c 103) Q10))) (.c 0))) (.v 0) (.c 0)) (.leaf [(.c 28)]) (.br (.f 20 (tC (.c 4) (tC (tC (.c 104) (tC (.c 97) (tC (.c 108) (tC (.c 102) (.c 0))))) (.c 0))) (.v 0) (.c 0)) (.leaf [(.c 29)]) (.br (.f 20 (tC (.c 4) (tC (tC (.c 104) (tC (.c 105) (tC (.c 103) Q11))) (.c 0))) (.v 0) (.c 0))
 (.leaf [(.c 30)]) (.br (.f 20 (tC (.c 4) (tC (tC (.c 97) (tC (.c 100) (tC (.c 100) Q12))) (.c 0))) (.v 0) (.c 0)) (.leaf [(.c 31)]) (.br (.f 20 (tC (.c 3) (tC (tC (.c 111) (tC (.c 114) Q12)) (.c 0))) (.v 0) (.c 0)) (.leaf [(.c 32)]) (.br (.f 20 (tC (.c 3) (tC (tC (.c 108) (tC (.c 117) Q12)) (.c 0))) (.v 0) (.c 0)) (.leaf [(.c 33)]) (.br (.f 20 (tC (.c 2) (tC (tC (.c 108) Q13) (.c 0))) (.v 0) (.c 0)) (.leaf [(.c 34)]) (.br (.f 20 (tC (.c 2) (tC (tC (.c 115) Q13) (.c 0))) (.v 0) (.c 0)) (.leaf [(.c 35)]) (.br (.f 20 (tC (.c 3) (tC (tC (.c 98) Q9) (.c 0))) (.v 0) (.c 0)) (.leaf [(.c 36)]) (.br (.f 20 (tC (.c 3) (tC (tC (.c 98) (tC (.c 110) (tC (.c 101) (.c 0)))) (.c 0))) (.v 0) (.c 0)) (.leaf [(.c 37)]) (.br (.f 20 (tC (.c 3) (tC (tC (.c 98) Q7) (.c 0))) (.v 0) (.c 0)) (.leaf [(.c 38)])
 (.br (.f 20 (tC (.c 4) (tC (tC (.c 106) (tC (.c 117) (tC (.c 109) Q14))) (.c 0))) (.v 0) (.c 0)) (.leaf [(.c 39)]) (.br (.f 20 (tC (.c 3) (tC (tC (.c 106) (tC (.c 97) Q5)) (.c 0))) (.v 0) (.c 0)) (.leaf [(.c 40)]) (.br (.f 20 (tC (.c 2) (tC (tC (.c 106) Q3) (.c 0))) (.v 0) (.c 0)) (.leaf [(.c 41)]) (.br (.f 20 (tC (.c 3) (tC (tC (.c 110) (tC (.c 111) Q14)) (.c 0))) (.v 0) (.c 0)) (.leaf [(.c 42)]) (.br (.f 20 (tC (.c 4) (tC (tC (.c 104) (tC (.c 97) Q7)) (.c 0))) (.v 0) (.c 0)) (.leaf [(.c 43)]) (.leaf [(.c 0)]))))))))))))))))))))))))))))))))))))))))))))
def P (a : Int) : Prop :=
 (Pb (seqZ (kZ 3 (kZ (kZ 97 (kZ 100 (kZ 100 0))) 0)) a) ((1 : Int) = (opfZ a) ∧ True) (Pb (seqZ (kZ 3 (kZ (kZ 115 (kZ 117 (kZ 98 0))) 0)) a) ((2 : Int) = (opfZ a) ∧ True) (Pb (seqZ (kZ 4 (kZ (kZ 97 (kZ 100 (kZ 100 (kZ 115 0)))) 0)) a) ((3 : Int) = (opfZ a) ∧ True) (Pb (seqZ (kZ 4 (kZ (kZ 115 (kZ 117 (kZ 98 (kZ 115 0)))) 0)) a) ((4 : Int) = (opfZ a) ∧ True) (Pb (seqZ (kZ 3 (kZ (kZ 97 (kZ 110 (kZ 100 0))) 0)) a) ((5 : Int) = (opfZ a) ∧ True) (Pb (seqZ (kZ 2 (kZ (kZ 111 (kZ 114 0)) 0)) a) ((6 : Int) = (opfZ a) ∧ True) (Pb (seqZ (kZ 3 (kZ (kZ 120 (kZ 111 (kZ 114 0))) 0)) a) ((7 : Int) = (opfZ a) ∧ True) (Pb (seqZ (kZ 3 (kZ (kZ 98 (kZ 105 (kZ 99 0))) 0)) a) ((8 : Int) = (opfZ a) ∧ True) (Pb (seqZ (kZ 3 (kZ (kZ 115 (kZ 104 (kZ 108 0))) 0)) a) ((9 : Int) = (opfZ a) ∧ True) (Pb (seqZ (kZ 3 (kZ
 (kZ 115 (kZ 104 (kZ 114 0))) 0)) a) ((10 : Int) = (opfZ a) ∧ True) (Pb (seqZ (kZ 3 (kZ (kZ 115 (kZ 97 (kZ 114 0))) 0)) a) ((11 : Int) = (opfZ a) ∧ True) (Pb (seqZ (kZ 3 (kZ (kZ 114 (kZ 111 (kZ 108 0))) 0)) a) ((12 : Int) = (opfZ a) ∧ True) (Pb (seqZ (kZ 3 (kZ (kZ 115 (kZ 108 (kZ 116 0))) 0)) a) ((13 : Int) = (opfZ a) ∧ True) (Pb (seqZ (kZ 4 (kZ (kZ 115 (kZ 108 (kZ 116 (kZ 117 0)))) 0)) a) ((14 : Int) = (opfZ a) ∧ True) (Pb (seqZ (kZ 3 (kZ (kZ 115 (kZ 101 (kZ 113 0))) 0)) a) ((15 : Int) = (opfZ a) ∧ True) (Pb (seqZ (kZ 3 (kZ (kZ 109 (kZ 105 (kZ 110 0))) 0)) a) ((16 : Int) = (opfZ a) ∧ True) (Pb (seqZ (kZ 3 (kZ (kZ 109 (kZ 97 (kZ 120 0))) 0)) a) ((17 : Int) = (opfZ a) ∧ True) (Pb (seqZ (kZ 3 (kZ (kZ 109 (kZ 117 (kZ 108 0))) 0)) a) ((18 : Int) = (opfZ a) ∧ True) (Pb (seqZ (kZ 4 (kZ (kZ 109
 (kZ 117 (kZ 108 (kZ 104 0)))) 0)) a) ((19 : Int) = (opfZ a) ∧ True) (Pb (seqZ (kZ 4 (kZ (kZ 109 (kZ 117 (kZ 108 (kZ 113 0)))) 0)) a) ((20 : Int) = (opfZ a) ∧ True) (Pb (seqZ (kZ 4 (kZ (kZ 109 (kZ 117 (kZ 108 (kZ 114 0)))) 0)) a) ((21 : Int) = (opfZ a) ∧ True) (Pb (seqZ (kZ 3 (kZ (kZ 100 (kZ 105 (kZ 118 0))) 0)) a) ((22 : Int) = (opfZ a) ∧ True) (Pb (seqZ (kZ 3 (kZ (kZ 114 (kZ 101 (kZ 109 0))) 0)) a) ((23 : Int) = (opfZ a) ∧ True) (Pb (seqZ (kZ 3 (kZ (kZ 99 (kZ 108 (kZ 122 0))) 0)) a) ((24 : Int) = (opfZ a) ∧ True) (Pb (seqZ (kZ 3 (kZ (kZ 110 (kZ 101 (kZ 103 0))) 0)) a) ((25 : Int) = (opfZ a) ∧ True) (Pb (seqZ (kZ 3 (kZ (kZ 97 (kZ 98 (kZ 115 0))) 0)) a) ((26 : Int) = (opfZ a) ∧ True) (Pb (seqZ (kZ 4 (kZ (kZ 109 (kZ 97 (kZ 115 (kZ 107 0)))) 0)) a) ((27 : Int) = (opfZ a) ∧ True) (Pb (seqZ
 (kZ 4 (kZ (kZ 115 (kZ 105 (kZ 103 (kZ 110 0)))) 0)) a) ((28 : Int) = (opfZ a) ∧ True) (Pb (seqZ (kZ 4 (kZ (kZ 104 (kZ 97 (kZ 108 (kZ 102 0)))) 0)) a) ((29 : Int) = (opfZ a) ∧ True) (Pb (seqZ (kZ 4 (kZ (kZ 104 (kZ 105 (kZ 103 (kZ 104 0)))) 0)) a) ((30 : Int) = (opfZ a) ∧ True) (Pb (seqZ (kZ 4 (kZ (kZ 97 (kZ 100 (kZ 100 (kZ 105 0)))) 0)) a) ((31 : Int) = (opfZ a) ∧ True) (Pb (seqZ (kZ 3 (kZ (kZ 111 (kZ 114 (kZ 105 0))) 0)) a) ((32 : Int) = (opfZ a) ∧ True) (Pb (seqZ (kZ 3 (kZ (kZ 108 (kZ 117 (kZ 105 0))) 0)) a) ((33 : Int) = (opfZ a) ∧ True) (Pb (seqZ (kZ 2 (kZ (kZ 108 (kZ 119 0)) 0)) a) ((34 : Int) = (opfZ a) ∧ True) (Pb (seqZ (kZ 2 (kZ (kZ 115 (kZ 119 0)) 0)) a) ((35 : Int) = (opfZ a) ∧ True) (Pb (seqZ (kZ 3 (kZ (kZ 98 (kZ 101 (kZ 113 0))) 0)) a) ((36 : Int) = (opfZ a) ∧ True) (Pb (seqZ
 (kZ 3 (kZ (kZ 98 (kZ 110 (kZ 101 0))) 0)) a) ((37 : Int) = (opfZ a) ∧ True) (Pb (seqZ (kZ 3 (kZ (kZ 98 (kZ 108 (kZ 116 0))) 0)) a) ((38 : Int) = (opfZ a) ∧ True) (Pb (seqZ (kZ 4 (kZ (kZ 106 (kZ 117 (kZ 109 (kZ 112 0)))) 0)) a) ((39 : Int) = (opfZ a) ∧ True) (Pb (seqZ (kZ 3 (kZ (kZ 106 (kZ 97 (kZ 108 0))) 0)) a) ((40 : Int) = (opfZ a) ∧ True) (Pb (seqZ (kZ 2 (kZ (kZ 106 (kZ 114 0)) 0)) a) ((41 : Int) = (opfZ a) ∧ True) (Pb (seqZ (kZ 3 (kZ (kZ 110 (kZ 111 (kZ 112 0))) 0)) a) ((42 : Int) = (opfZ a) ∧ True) (Pb (seqZ (kZ 4 (kZ (kZ 104 (kZ 97 (kZ 108 (kZ 116 0)))) 0)) a) ((43 : Int) = (opfZ a) ∧ True) ((0 : Int) = (opfZ a) ∧ True))))))))))))))))))))))))))))))))))))))))))))
set_option maxHeartbeats 4000000 in
theorem holds (s0 : Int) : P s0 := by
 delta P Pb kZ
 generalize hX : opfZ s0 = X
 replace hX : X = opF qZa 1 s0 := hX.symm
 refine ⟨fun h => ⟨qJy hX rfl rfl h, trivial⟩, fun h => ?_⟩
 replace hX := qJv hX rfl h
 refine ⟨fun h => ⟨qJy hX rfl rfl h, trivial⟩, fun h => ?_⟩
 replace hX := qJv hX rfl h
 refine ⟨fun h => ⟨qJy hX rfl rfl h, trivial⟩, fun h => ?_⟩
 replace hX := qJv hX rfl h
 refine ⟨fun h => ⟨qJy hX rfl rfl h, trivial⟩, fun h => ?_⟩
 replace hX := qJv hX rfl h
 refine ⟨fun h => ⟨qJy hX rfl rfl h, trivial⟩, fun h => ?_⟩
 replace hX := qJv hX rfl h
 refine ⟨fun h => ⟨qJy hX rfl rfl h, trivial⟩, fun h => ?_⟩
 replace hX := qJv hX rfl h
 refine ⟨fun h => ⟨qJy hX rfl rfl h, trivial⟩, fun h => ?_⟩
 replace hX := qJv hX rfl h
 refine ⟨fun h => ⟨qJy hX rfl rfl h, trivial⟩, fun h => ?_⟩
 replace hX := qJv hX rfl h
 refine ⟨fun h => ⟨qJy hX rfl rfl h, trivial⟩, fun h => ?_⟩
 replace hX := qJv hX rfl h
 refine ⟨fun h => ⟨qJy hX rfl rfl h, trivial⟩, fun h => ?_⟩
 replace hX := qJv hX rfl h
 refine ⟨fun h => ⟨qJy hX rfl rfl h, trivial⟩, fun h => ?_⟩
 replace hX := qJv hX rfl h
 refine ⟨fun h => ⟨qJy hX rfl rfl h, trivial⟩, fun h => ?_⟩
 replace hX := qJv hX rfl h
 refine ⟨fun h => ⟨qJy hX rfl rfl h, trivial⟩, fun h => ?_⟩
 replace hX := qJv hX rfl h
 refine ⟨fun h => ⟨qJy hX rfl rfl h, trivial⟩, fun h => ?_⟩
 replace hX := qJv hX rfl h
 refine ⟨fun h => ⟨qJy hX rfl rfl h, trivial⟩, fun h => ?_⟩
 replace hX := qJv hX rfl h
 refine ⟨fun h => ⟨qJy hX rfl rfl h, trivial⟩, fun h => ?_⟩
 replace hX := qJv hX rfl h
 refine ⟨fun h => ⟨qJy hX rfl rfl h, trivial⟩, fun h => ?_⟩
 replace hX := qJv hX rfl h
 refine ⟨fun h => ⟨qJy hX rfl rfl h, trivial⟩, fun h => ?_⟩
 replace hX := qJv hX rfl h
 refine ⟨fun h => ⟨qJy hX rfl rfl h, trivial⟩, fun h => ?_⟩
 replace hX := qJv hX rfl h
 refine ⟨fun h => ⟨qJy hX rfl rfl h, trivial⟩, fun h => ?_⟩
 replace hX := qJv hX rfl h
 refine ⟨fun h => ⟨qJy hX rfl rfl h, trivial⟩, fun h => ?_⟩
 replace hX := qJv hX rfl h
 refine ⟨fun h => ⟨qJy hX rfl rfl h, trivial⟩, fun h => ?_⟩
 replace hX := qJv hX rfl h
 refine ⟨fun h => ⟨qJy hX rfl rfl h, trivial⟩, fun h => ?_⟩
 replace hX := qJv hX rfl h
 refine ⟨fun h => ⟨qJy hX rfl rfl h, trivial⟩, fun h => ?_⟩
 replace hX := qJv hX rfl h
 refine ⟨fun h => ⟨qJy hX rfl rfl h, trivial⟩, fun h => ?_⟩
 replace hX := qJv hX rfl h
 refine ⟨fun h => ⟨qJy hX rfl rfl h, trivial⟩, fun h => ?_⟩
 replace hX := qJv hX rfl h
 refine ⟨fun h => ⟨qJy hX rfl rfl h, trivial⟩, fun h => ?_⟩
 replace hX := qJv hX rfl h
 refine ⟨fun h => ⟨qJy hX rfl rfl h, trivial⟩, fun h => ?_⟩
 replace hX := qJv hX rfl h
 refine ⟨fun h => ⟨qJy hX rfl rfl h, trivial⟩, fun h => ?_⟩
 replace hX := qJv hX rfl h
 refine ⟨fun h => ⟨qJy hX rfl rfl h, trivial⟩, fun h => ?_⟩
 replace hX := qJv hX rfl h
 refine ⟨fun h => ⟨qJy hX rfl rfl h, trivial⟩, fun h => ?_⟩
 replace hX := qJv hX rfl h
 refine ⟨fun h => ⟨qJy hX rfl rfl h, trivial⟩, fun h => ?_⟩
 replace hX := qJv hX rfl h
 refine ⟨fun h => ⟨qJy hX rfl rfl h, trivial⟩, fun h => ?_⟩
 replace hX := qJv hX rfl h
 refine ⟨fun h => ⟨qJy hX rfl rfl h, trivial⟩, fun h => ?_⟩
 replace hX := qJv hX rfl h
 refine ⟨fun h => ⟨qJy hX rfl rfl h, trivial⟩, fun h => ?_⟩
 replace hX := qJv hX rfl h
 refine ⟨fun h => ⟨qJy hX rfl rfl h, trivial⟩, fun h => ?_⟩
 replace hX := qJv hX rfl h
 refine ⟨fun h => ⟨qJy hX rfl rfl h, trivial⟩, fun h => ?_⟩
 replace hX := qJv hX rfl h
 refine ⟨fun h => ⟨qJy hX rfl rfl h, trivial⟩, fun h => ?_⟩
 replace hX := qJv hX rfl h
 refine ⟨fun h => ⟨qJy hX rfl rfl h, trivial⟩, fun h => ?_⟩
 replace hX := qJv hX rfl h
 refine ⟨fun h => ⟨qJy hX rfl rfl h, trivial⟩, fun h => ?_⟩
 replace hX := qJv hX rfl h
 refine ⟨fun h => ⟨qJy hX rfl rfl h, trivial⟩, fun h => ?_⟩
 replace hX := qJv hX rfl h
 refine ⟨fun h => ⟨qJy hX rfl rfl h, trivial⟩, fun h => ?_⟩
 replace hX := qJv hX rfl h
 refine ⟨fun h => ⟨qJy hX rfl rfl h, trivial⟩, fun h => ?_⟩
 replace hX := qJv hX rfl h
 exact ⟨hX.symm, trivial⟩
theorem plain (i v ro p) : statR 2 rc tree ⟨i, fN, v, ro, p⟩ = P (i 0) := by kernel_rfl
theorem ran : ranR us (fun f _ => if [24, 50].contains f then .unroll 400 else .auto) rc 2 tree = true := by kernel_rfl
theorem fineT : fineR 2 rc tree = true := by kernel_rfl
theorem ok : RcOk (cxOf 2) rc := okR us_ok ran fineT okb fun i v ro p hρ hcap hpre => by rw [plain]; have q := hρ.hi; exact holds _
end COFind
namespace CLCut
def rc : Rc := ⟨40, [none, none], [.str, .str], [], .tup [none, none], [.str (.f 147 (.v 0) (.v 1) (.c 0)), .bool (.f 148 (.v 0) (.v 1) (.c 0))]⟩
theorem okb : rc.ok = true := by kernel_rfl
noncomputable def us : SMs := fun Γ ins n => smH (cxG n Γ ins) [] (smR (cxG n Γ ins) [])
theorem us_ok : SMsOk us := fun Γ ins n => qZb (tabsG n Γ ins) (qQs _) (qZw (tabsG n Γ ins) (qQt _))
def tree : TT (List E) :=
(.br (.b .le .i64 (.f 21 (.v 1) (.c 0) (.c 0)) (.f 21 (.v 0) (.c 0) (.c 0)))
 (.br (.nt (.f 20 (.f 11 (.f 21 (.v 1) (.c 0) (.c 0)) (.f 11 (.f 18 (.f 13 (.v 0) (.c 1) (.c 0)) (.c 0) (.c 0)) (.c 0) (.c 0)) (.c 0)) (.v 1) (.c 0)))
 (.leaf [(.v 0), (.c 0)])
 (.leaf [(.f 11 (.b .psub .i64 (.f 21 (.v 0) (.c 0) (.c 0)) (.f 21 (.v 1) (.c 0) (.c 0))) (.f 11 (.f 18 (.f 13 (.v 0) (.c 1) (.c 0)) (.f 21 (.v 1) (.c 0) (.c 0)) (.c 0)) (.c 0) (.c 0)) (.c 0)), (.c 1)]))
 (.leaf [(.v 0), (.c 0)]))
def P (s0 s1 : Int) : Prop :=
 (((qQx (decide ((qQz s1) ≤ (qQz s0)))) ≠ 0 →
  (((qQx ((seqZ (qQq (qQz s1) (qQq (qQv (rdZ s0 1) 0) 0)) s1) == 0)) ≠ 0 →
   qQj s0 = qQj (cupZ s0 s1) ∧ ((0 : Int) ≠ 0 ↔ ((cupK s0 s1) : Int) ≠ 0) ∧ True) ∧ ((qQx ((seqZ (qQq (qQz s1) (qQq (qQv (rdZ s0 1) 0) 0)) s1) == 0)) = 0 →
   qQj (qQq ((qQz s0) - (qQz s1)) (qQq (qQv (rdZ s0 1) (qQz s1)) 0)) = qQj (cupZ s0 s1) ∧ ((1 : Int) ≠ 0 ↔ ((cupK s0 s1) : Int) ≠ 0) ∧ True))) ∧ ((qQx (decide ((qQz s1) ≤ (qQz s0)))) = 0 →
  qQj s0 = qQj (cupZ s0 s1) ∧ ((0 : Int) ≠ 0 ↔ ((cupK s0 s1) : Int) ≠ 0) ∧ True))
theorem holds (s0 s1 : Int) : P s0 s1 := by
 unfold P
 simp only [nrm, Int.reduceEq, Int.reduceNeg, reduceIte]
 refine ⟨fun h1 => ⟨fun h2 => ?_, fun h2 => ?_⟩, fun h1 => ?_⟩
 ·have hk : cupK s0 s1 = 0 := by unfold cupK; exact if_neg fun h => h.2 h2
  refine ⟨?_, ?_⟩
  ·unfold cupZ; rw [hk]; rfl
  ·rw [hk]; try trivial
 ·have hk : cupK s0 s1 = 1 := by unfold cupK; exact if_pos ⟨h1, h2⟩
  refine ⟨?_, ?_⟩
  ·unfold cupZ; rw [hk]; rfl
  ·rw [hk]; decide
 ·have hk : cupK s0 s1 = 0 := by unfold cupK; exact if_neg fun h => by omega
  refine ⟨?_, ?_⟩
  ·unfold cupZ; rw [hk]; rfl
  ·rw [hk]; try trivial
theorem plain (i v ro p) : statR 2 rc tree ⟨i, fN, v, ro, p⟩ = P (i 0) (i 1) := by kernel_rfl
theorem ran : ranR us (fun _ _ => .auto) rc 2 tree = true := by kernel_rfl
theorem fineT : fineR 2 rc tree = true := by kernel_rfl
theorem ok : RcOk (cxOf 2) rc := okR us_ok ran fineT okb fun i v ro p hρ hcap hpre => by rw [plain]; have q := hρ.hi; exact holds _ _
end CLCut
namespace CLPe
def rk : Rk := ⟨7, [(0, 0)], 2, [.str (.v 1)], [], [(.c 2), (.c 1), (.b .le .i64 (.f 21 (.v 1) (.c 0) (.c 0)) (.c 100000)), (.b .eq .i64 (.f 136 (.v 1) (.c 0) (.c 0)) (.c 0)), (.b .eq .i64 (.f 90 (.f 11 (.c 0) (.f 11 (.c 0) (.c 0) (.c 0)) (.c 0)) (.c 0) (.c 0)) (.v 0))], .tup [.agg [.int .i64 (.v 1000000), .int .i64 (.v 1000001), .int .i64 (.v 1000002), .int .i64 (.v 1000003), .int .i64 (.v 1000004)], .int .i64 (.v 1000005)], [], [.num (.f 143 (.v 1) (.c 0) (.c 0)), .num (.f 143 (.v 1) (.c 1) (.c 0)), .num (.f 143 (.v 1) (.c 2) (.c 0)), .num (.f 143 (.v 1) (.c 3) (.c 0)), .num (.f 143 (.v 1) (.c 4) (.c 0)), .num (.f 144 (.v 1) (.c 0) (.c 0))], []⟩
theorem okk : rk.ok = true := by kernel_rfl
theorem okh : rk.rh.ok = true := by kernel_rfl
noncomputable def us : SMs := fun Γ ins n => smH (cxG n Γ ins) [] (smR (cxG n Γ ins) [CCChk.rc, CLWords.rc, CLNumber.rc, COFind.rc, CLCut.rc])
theorem us_ok : SMsOk us := fun Γ ins n => qZb (tabsG n Γ ins) (qQs _) (qZw (tabsG n Γ ins) (qQw CCChk.okb (rc_n CCChk.ok) (qQw CLWords.okb (rc_n CLWords.ok) (qQw CLNumber.okb (rc_n CLNumber.ok) (qQw COFind.okb (rc_n COFind.ok) (qQw CLCut.okb (rc_n CLCut.ok) (qQt _)))))))
def tree : TT (List E) :=
(.leaf [(.c 0), (.c 0), (.c 0), (.c 0), (.c 0), (.c 3)])
def P (o s : Int) : Prop :=
 (0 : Int) = (parZ s 0) ∧ (0 : Int) = (parZ s 1) ∧ (0 : Int) = (parZ s 2) ∧ (0 : Int) = (parZ s 3) ∧ (0 : Int) = (parZ s 4) ∧ (3 : Int) = (parE s) ∧ True
theorem holds (o s : Int) (l_o : 0 ≤ o) (u_o : o ≤ 0) (h_pre0 : (2 : Int) ≠ 0) (h_pre1 : (1 : Int) ≠ 0) (h_pre2 : qQx (decide ((qQz s)  ≤  100000)) ≠ 0) (h_pre3 : qQx ((wrdN s)  ==  0) ≠ 0) (h_pre4 : qQx ((opfZ (qQq 0 (qQq 0 0)))  ==  o) ≠ 0) : P o s := by
 unfold P
 simp only [nrm, Int.reduceEq, Int.reduceNeg, reduceIte] at h_pre3 ⊢
 have hG := par_no (par_bad (s := s) (.inl h_pre3))
 unfold parF at hG
 simp only [if_true, if_false, Int.reduceEq] at hG
 obtain ⟨g1, g2, g3, g4, g5, g6⟩ := hG
 rw [g1, g2, g3, g4, g5, g6]
 exact ⟨rfl, rfl, rfl, rfl, rfl, rfl⟩
theorem plain (i v ro p) : statH 2 rk tree ⟨i, fN, v, ro, p⟩ = P (i 0) (i 1) := by kernel_rfl
theorem ran : ranH us (fun f _ => if [7].contains f then .unroll 400 else .auto) rk 2 tree = true := by kernel_rfl
theorem fineT : fineH 2 rk tree = true := by kernel_rfl
theorem ok : RhOk (cxOf 2) rk.rh := okH us_ok ran fineT (by kernel_rfl) okk fun i v ro p hρ hpre => by rw [plain]; have q := hρ.hi; exact holds _ _ (q 0 _ rfl).1 (q 0 _ rfl).2 (hpre _ (mg 0 rfl)) (hpre _ (mg 1 rfl)) (hpre _ (mg 2 rfl)) (hpre _ (mg 3 rfl)) (hpre _ (mg 4 rfl))
end CLPe
namespace CLPa
def rk : Rk := ⟨7, [(0, 23)], 2, [.str (.v 1)], [], [(.c 2), (.c 1), (.b .le .i64 (.f 21 (.v 1) (.c 0) (.c 0)) (.c 100000)), (.b .ne .i64 (.f 136 (.v 1) (.c 0) (.c 0)) (.c 0)), (.b .eq .i64 (.f 90 (.f 13 (.f 137 (.v 1) (.c 0) (.c 0)) (.c 0) (.c 0)) (.c 0) (.c 0)) (.v 0))], .tup [.agg [.int .i64 (.v 1000000), .int .i64 (.v 1000001), .int .i64 (.v 1000002), .int .i64 (.v 1000003), .int .i64 (.v 1000004)], .int .i64 (.v 1000005)], [], [.num (.f 143 (.v 1) (.c 0) (.c 0)), .num (.f 143 (.v 1) (.c 1) (.c 0)), .num (.f 143 (.v 1) (.c 2) (.c 0)), .num (.f 143 (.v 1) (.c 3) (.c 0)), .num (.f 143 (.v 1) (.c 4) (.c 0)), .num (.f 144 (.v 1) (.c 0) (.c 0))], []⟩
theorem okk : rk.ok = true := by kernel_rfl
theorem okh : rk.rh.ok = true := by kernel_rfl
noncomputable def us : SMs := fun Γ ins n => smH (cxG n Γ ins) [] (smR (cxG n Γ ins) [CCChk.rc, CLWords.rc, CLNumber.rc, COFind.rc, CLCut.rc])
theorem us_ok : SMsOk us := fun Γ ins n => qZb (tabsG n Γ ins) (qQs _) (qZw (tabsG n Γ ins) (qQw CCChk.okb (rc_n CCChk.ok) (qQw CLWords.okb (rc_n CLWords.ok) (qQw CLNumber.okb (rc_n CLNumber.ok) (qQw COFind.okb (rc_n COFind.ok) (qQw CLCut.okb (rc_n CLCut.ok) (qQt _)))))))
def Q0 : E := (.f 136 (.v 1) (.c 0) (.c 0))
def Q1 : E := (.b .psub .i64 Q0 (.c 1))
def Q2 : E := (tC (.c 0) (.c 0))
def Q3 : E := (tC (.c 0) Q2)
def Q4 : E := (tC (.c 114) (.c 0))
def Q5 : E := (tC Q4 (.c 0))
def Q6 : E := (tC (.c 1) Q5)
def Q7 : E := (.f 148 Q3 Q6 (.c 0))
def Q8 : E := (.f 147 Q3 Q6 (.c 0))
def Q9 : E := (.f 139 Q8 (.c 0) (.c 0))
def Q10 : E := (.f 138 Q8 (.c 0) (.c 0))
def Q11 : E := (.f 137 (.v 1) (.c 0) (.c 0))
def Q12 : E := (tR Q11 (.c 1))
def Q13 : E := (.f 147 Q12 Q6 (.c 0))
def Q14 : E := (.b .psub .i64 Q1 (.c 1))
def Q15 : E := (tl (.c 0) Q14)
def Q16 : E := (te Q14 (.c 0))
def Q17 : E := (tk (.c 0) Q14)
def Q18 : E := (tp (.c 1) (.c 1))
def Q19 : E := (tk Q18 Q0)
def Q20 : E := (tl (.c 1) Q14)
def Q21 : E := (tp Q18 Q14)
def Q22 : E := (tl Q21 Q0)
def Q23 : E := (tR Q11 Q18)
def Q24 : E := (.f 148 Q23 Q6 (.c 0))
def Q25 : E := (.f 147 Q23 Q6 (.c 0))
def Q26 : E := (.f 139 Q25 (.c 0) (.c 0))
def Q27 : E := (.f 138 Q25 (.c 0) (.c 0))
def Q28 : E := (.b .psub .i64 Q14 (.c 1))
def Q29 : E := (tl (.c 0) Q28)
def Q30 : E := (te Q28 (.c 0))
def Q31 : E := (tk (.c 0) Q28)
def Q32 : E := (tp Q18 (.c 1))
def Q33 : E := (tk Q32 Q0)
def Q34 : E := (tl (.c 1) Q28)
def Q35 : E := (tp Q32 Q28)
def Q36 : E := (tl Q35 Q0)
def Q37 : E := (tR Q11 Q32)
def Q38 : E := (.f 148 Q37 Q6 (.c 0))
def Q39 : E := (.f 147 Q37 Q6 (.c 0))
def Q40 : E := (.f 139 Q39 (.c 0) (.c 0))
def Q41 : E := (.f 138 Q39 (.c 0) (.c 0))
def Q42 : E := (.b .psub .i64 Q28 (.c 1))
def Q43 : E := (.cl 1001 (-999999999) 999999999)
def Q44 : E := (.cl 1004 (-999999999) 999999999)
def Q45 : E := (.cl 1007 (-999999999) 999999999)
def tree : TT (List E) :=
 (.br (tk (.c 0) Q0) (.br (tl (.c 1) Q0) (.br (tl (.c 1) (.v 0)) (.br (tl (.c 0) Q1) (.br (te Q1 (.c 0)) (.new 1000 Q7 (.new 1001 Q9 (.new 1002 Q10 (.leaf [(.c 0), (.c 0), (.c 0), (.c 0), (.c 0), (.c 3)])))) (.br (tk (.c 0) Q1) (.br (tk (.c 1) Q0) (.br (tl (.c 1) Q1) (.br (tl (tp (.c 1) Q1) Q0) (.new 1000 (.f 148 Q12 Q6 (.c 0)) (.new 1001 (.f 139 Q13 (.c 0) (.c 0)) (.new 1002 (.f 138 Q13 (.c 0) (.c 0)) (.br (.nt (.cl 1000 0 1)) (.br Q15 (.br Q16 (.new 1003 Q7 (.new 1004 Q9 (.new 1005 Q10 (.leaf [(.c 0), (.c 0), (.c 0), (.c 0), (.c 0), (.c 3)])))) (.br Q17 (.br Q19 (.br Q20 (.br Q22 (.new 1003 Q24 (.new 1004 Q26 (.new 1005 Q27 (.br Q29 (.br Q30 (.new 1006 Q7 (.new 1007 Q9 (.new 1008 Q10 (.leaf [(.c 0), (.c 0), (.c 0), (.c 0), (.c 0), (.c 3)])))) (.br Q31 (.br Q33 (.br Q34 (.br Q36 (.new
 1006 Q38 (.new 1007 Q40 (.new 1008 Q41 (.leaf [(.c 0), (.c 0), (.c 0), (.c 0), (.c 0), (.c 3)])))) (.bad 200)) (.bad 200)) (.bad 200)) (.bad 200))) (.bad 200))))) (.bad 200)) (.bad 200)) (.bad 200)) (.bad 200))) (.bad 200)) (.br Q15 (.br Q16 (.new 1003 Q7 (.new 1004 Q9 (.new 1005 Q10 (.leaf [(.c 0), (.c 0), (.c 0), (.c 0), (.c 0), (.c 3)])))) (.br Q17 (.br Q19 (.br Q20 (.br Q22 (.new 1003 Q24 (.br (.nt (.cl 1002 0 1)) (.new 1004 Q26 (.new 1005 Q27 (.br Q29 (.br Q30 (.new 1006 Q7 (.new 1007 Q9 (.new 1008 Q10 (.leaf [(.c 0), (.c 0), (.c 0), (.c 0), (.c 0), (.c 3)])))) (.br Q31 (.br Q33 (.br Q34 (.br Q36 (.new 1006 Q38 (.new 1007 Q40 (.new 1008 Q41 (.leaf [(.c 0), (.c 0), (.c 0), (.c 0), (.c 0), (.c 3)])))) (.bad 200)) (.bad 200)) (.bad 200)) (.bad 200))) (.bad 200)))) (.new 1004 Q26 (.new
 1005 Q27 (.br (.nt (.cl 1003 0 1)) (.br Q29 (.br Q30 (.new 1006 Q7 (.new 1007 Q9 (.new 1008 Q10 (.leaf [(.c 0), (.c 0), (.c 0), (.c 0), (.c 0), (.c 3)])))) (.br Q31 (.br Q33 (.br Q34 (.br Q36 (.new 1006 Q38 (.new 1007 Q40 (.new 1008 Q41 (.leaf [(.c 0), (.c 0), (.c 0), (.c 0), (.c 0), (.c 3)])))) (.bad 200)) (.bad 200)) (.bad 200)) (.bad 200))) (.bad 200)) (.br Q29 (.br Q30 (.new 1006 Q7 (.new 1007 Q9 (.new 1008 Q10 (.leaf [(.c 0), (.c 0), (.c 0), (.c 0), (.c 0), (.c 3)])))) (.br Q31 (.br Q33 (.br Q34 (.br Q36 (.new 1006 Q38 (.br (.nt (.cl 1005 0 1)) (.new 1007 Q40 (.new 1008 Q41 (.leaf [(.c 0), (.c 0), (.c 0), (.c 0), (.c 0), (.c 3)]))) (.new 1007 Q40 (.new 1008 Q41 (.br (.nt (.cl 1006 0 1)) (.leaf [(.c 0), (.c 0), (.c 0), (.c 0), (.c 0), (.c 3)]) (.br (.nt (.cl 1008 0 1)) (.leaf [(.c
 0), (.c 0), (.c 0), (.c 0), (.c 0), (.c 3)]) (.br (tl (.c 0) Q42) (.br (tk (.c 0) Q42) (.leaf [(.c 0), (.c 0), (.c 0), (.c 0), (.c 0), (.c 3)]) (.new 1009 (.f 141 (.v 0) Q43 (tC Q44 (tC Q45 Q2))) (.br (tn (.cl 1009 0 6) (.c 0)) (.leaf [(.c 0), (.c 0), (.c 0), (.c 0), (.c 0), (.cl 1009 0 6)]) (.leaf [(.v 0), Q43, Q44, Q45, (.c 0), (.c 0)])))) (.bad 200)))))))) (.bad 200)) (.bad 200)) (.bad 200)) (.bad 200))) (.bad 200))))))) (.bad 200)) (.bad 200)) (.bad 200)) (.bad 200))) (.bad 200)))))) (.bad 200)) (.bad 200)) (.bad 200)) (.bad 200))) (.bad 200)) (.leaf [(.c 0), (.c 0), (.c 0), (.c 0), (.c 0), (.c 3)])) (.bad 200)) (.bad 200))
noncomputable def sq0 : Int := (cupZ (kZ 0 (kZ 0 0)) (kZ 1 (kZ (kZ 114 0) 0)))
noncomputable def sq1 (b : Int) : Int := (cupZ (rdZ (wrdC b) ((1 + 1) + 1)) (kZ 1 (kZ (kZ 114 0) 0)))
noncomputable def sq2 : Int := (cupK (kZ 0 (kZ 0 0)) (kZ 1 (kZ (kZ 114 0) 0)))
noncomputable def sq3 (b : Int) : Int := (cupZ (rdZ (wrdC b) (1 + 1)) (kZ 1 (kZ (kZ 114 0) 0)))
def sL0 (b z0 z2 z4 z6 z10 : Int) : Prop := (z0 : Int) = (parZ b 0) ∧ (z2 : Int) = (parZ b 1) ∧ (z4 : Int) = (parZ b 2) ∧ (z6 : Int) = (parZ b 3) ∧ (0 : Int) = (parZ b 4) ∧ (z10 : Int) = (parE b) ∧ True
def sq4 (b : Int) : Prop := (Pm (PL 0 ((((wrdN b) - 1) - 1) - 1)) (Pb (Pe ((((wrdN b) - 1) - 1) - 1) 0) (Pn sq2 0 1 fun y6 => Pn (numZ sq0) (-999999999) 999999999 fun y7 => Pn (numK sq0) 0 1 fun y8 => (sL0 b 0 0 0 0 3)) (Pm (Pl 0 ((((wrdN b) - 1) - 1) - 1)) (Pm (Pl ((1 + 1) + 1) (wrdN b)) (Pm (PL 1 ((((wrdN b) - 1) - 1) - 1)) (Pm (PL (((1 + 1) + 1) + ((((wrdN b) - 1) - 1) - 1)) (wrdN b)) (Pn (cupK (rdZ (wrdC b) ((1 + 1) + 1)) (kZ 1 (kZ (kZ 114 0) 0))) 0 1 fun y6 => Pn (numZ (sq1 b)) (-999999999) 999999999 fun y7 => Pn (numK (sq1 b)) 0 1 fun y8 => (sL0 b 0 0 0 0 3))))))))
def P (a b : Int) : Prop :=
 (Pm (Pl 0 (wrdN b)) (Pm (PL 1 (wrdN b)) (Pb (PL 1 a) (Pm (PL 0 ((wrdN b) - 1)) (Pb (Pe ((wrdN b) - 1) 0) (Pn sq2 0 1 fun y0 => Pn (numZ sq0) (-999999999) 999999999 fun y1 => Pn (numK sq0) 0 1 fun y2 => (sL0 b 0 0 0 0 3)) (Pm (Pl 0 ((wrdN b) - 1)) (Pm (Pl 1 (wrdN b)) (Pm (PL 1 ((wrdN b) - 1)) (Pm (PL (1 + ((wrdN b) - 1)) (wrdN b)) (Pn (cupK (rdZ (wrdC b) 1) (kZ 1 (kZ (kZ 114 0) 0))) 0 1 fun y0 => Pn (numZ (cupZ (rdZ (wrdC b) 1) (kZ 1 (kZ (kZ 114 0) 0)))) (-999999999) 999999999 fun y1 => Pn (numK (cupZ (rdZ (wrdC b) 1) (kZ 1 (kZ (kZ 114 0) 0)))) 0 1 fun y2 => (Pb (Pe y0 0) (Pm (PL 0 (((wrdN b) - 1) - 1)) (Pb (Pe (((wrdN b) - 1) - 1) 0) (Pn sq2 0 1 fun y3 => Pn (numZ sq0) (-999999999) 999999999 fun y4 => Pn (numK sq0) 0 1 fun y5 => (sL0 b 0 0 0 0 3)) (Pm (Pl 0 (((wrdN b) - 1) - 1)) (Pm (Pl
 (1 + 1) (wrdN b)) (Pm (PL 1 (((wrdN b) - 1) - 1)) (Pm (PL ((1 + 1) + (((wrdN b) - 1) - 1)) (wrdN b)) (Pn (cupK (rdZ (wrdC b) (1 + 1)) (kZ 1 (kZ (kZ 114 0) 0))) 0 1 fun y3 => Pn (numZ (sq3 b)) (-999999999) 999999999 fun y4 => Pn (numK (sq3 b)) 0 1 fun y5 => (sq4 b)))))))) (Pm (PL 0 (((wrdN b) - 1) - 1)) (Pb (Pe (((wrdN b) - 1) - 1) 0) (Pn sq2 0 1 fun y3 => Pn (numZ sq0) (-999999999) 999999999 fun y4 => Pn (numK sq0) 0 1 fun y5 => (sL0 b 0 0 0 0 3)) (Pm (Pl 0 (((wrdN b) - 1) - 1)) (Pm (Pl (1 + 1) (wrdN b)) (Pm (PL 1 (((wrdN b) - 1) - 1)) (Pm (PL ((1 + 1) + (((wrdN b) - 1) - 1)) (wrdN b)) (Pn (cupK (rdZ (wrdC b) (1 + 1)) (kZ 1 (kZ (kZ 114 0) 0))) 0 1 fun y3 => (Pb (Pe y2 0) (Pn (numZ (sq3 b)) (-999999999) 999999999 fun y4 => Pn (numK (sq3 b)) 0 1 fun y5 => (sq4 b)) (Pn (numZ (sq3 b))
 (-999999999) 999999999 fun y4 => Pn (numK (sq3 b)) 0 1 fun y5 => (Pb (Pe y3 0) (sq4 b) (Pm (PL 0 ((((wrdN b) - 1) - 1) - 1)) (Pb (Pe ((((wrdN b) - 1) - 1) - 1) 0) (Pn sq2 0 1 fun y6 => Pn (numZ sq0) (-999999999) 999999999 fun y7 => Pn (numK sq0) 0 1 fun y8 => (sL0 b 0 0 0 0 3)) (Pm (Pl 0 ((((wrdN b) - 1) - 1) - 1)) (Pm (Pl ((1 + 1) + 1) (wrdN b)) (Pm (PL 1 ((((wrdN b) - 1) - 1) - 1)) (Pm (PL (((1 + 1) + 1) + ((((wrdN b) - 1) - 1) - 1)) (wrdN b)) (Pn (cupK (rdZ (wrdC b) ((1 + 1) + 1)) (kZ 1 (kZ (kZ 114 0) 0))) 0 1 fun y6 => (Pb (Pe y5 0) (Pn (numZ (sq1 b)) (-999999999) 999999999 fun y7 => Pn (numK (sq1 b)) 0 1 fun y8 => (sL0 b 0 0 0 0 3)) (Pn (numZ (sq1 b)) (-999999999) 999999999 fun y7 => Pn (numK (sq1 b)) 0 1 fun y8 => (Pb (Pe y6 0) (sL0 b 0 0 0 0 3) (Pb (Pe y8 0) (sL0 b 0 0 0 0 3) (Pm
 (PL 0 (((((wrdN b) - 1) - 1) - 1) - 1)) (Pb (Pl 0 (((((wrdN b) - 1) - 1) - 1) - 1)) (sL0 b 0 0 0 0 3) (Pn (cckZ a y1 (kZ y4 (kZ y7 (kZ 0 0)))) 0 6 fun y9 => (Pb (Pd y9 0) (sL0 b 0 0 0 0 y9) (sL0 b a y1 y4 y7 0)))))))))))))))))))))))))))))))))) (sL0 b 0 0 0 0 3))))
theorem cup_r (x : Int) : (cupK x (qQq 1 (qQq (qQq 114 0) 0)) = 0 ∧ ¬ (1 ≤ qQz x ∧ ¬ seqZ (qQq 1 (qQq (qQv (rdZ x 1) 0) 0)) (qQq 1 (qQq (qQq 114 0) 0)) = 0)) ∨
  (cupK x (qQq 1 (qQq (qQq 114 0) 0)) = 1 ∧ 1 ≤ qQz x ∧ ¬ seqZ (qQq 1 (qQq (qQv (rdZ x 1) 0) 0)) (qQq 1 (qQq (qQq 114 0) 0)) = 0 ∧
   numK (cupZ x (qQq 1 (qQq (qQq 114 0) 0))) = numK (qQq (qQz x - 1) (qQq (qQv (rdZ x 1) 1) 0)) ∧ numZ (cupZ x (qQq 1 (qQq (qQq 114 0) 0))) = numZ (qQq (qQz x - 1) (qQq (qQv (rdZ x 1) 1) 0))) := by
 have h1 := qZm (qQq (qQq 114 0) 0)
 by_cases h : 1 ≤ qQz x ∧ ¬ seqZ (qQq 1 (qQq (qQv (rdZ x 1) 0) 0)) (qQq 1 (qQq (qQq 114 0) 0)) = 0
 ·have hk : cupK x (qQq 1 (qQq (qQq 114 0) 0)) = 1 := by unfold cupK; rw [h1]; exact if_pos h
  have hz : cupZ x (qQq 1 (qQq (qQq 114 0) 0)) = qQq (qQz x - 1) (qQq (qQv (rdZ x 1) 1) 0) := by unfold cupZ; rw [hk, h1]; rfl
  exact .inr ⟨hk, h.1, h.2, by rw [hz], by rw [hz]⟩
 ·have hk : cupK x (qQq 1 (qQq (qQq 114 0) 0)) = 0 := by unfold cupK; rw [h1]; exact if_neg h
  exact .inl ⟨hk, h⟩
theorem cup_y {x : Int} (h : cupK x (qQq 1 (qQq (qQq 114 0) 0)) = 1) : cupZ x (qQq 1 (qQq (qQq 114 0) 0)) = qQq (qQz x - 1) (qQq (qQv (rdZ x 1) 1) 0) ∧ True := by
 refine ⟨?_, trivial⟩
 unfold cupZ; rw [h, qZm]; rfl
set_option maxHeartbeats 40000000 in
theorem holds (o s : Int) (l_o : 0 ≤ o) (u_o : o ≤ 23) (h_pre0 : (2 : Int) ≠ 0) (h_pre1 : (1 : Int) ≠ 0) (h_pre2 : qQx (decide ((qQz s)  ≤  100000)) ≠ 0) (h_pre3 : qQx ((wrdN s)  !=  0) ≠ 0) (h_pre4 : qQx ((opfZ (rdZ (wrdC s) 0))  ==  o) ≠ 0) : P o s := by
 delta P sq0 sq1 sq2 sq3 sq4 sL0 Pb Pm Pn PL Pl Pe Pd kZ
 have hw0 := (qYe s).1
 have hbad := fun h => par_no (par_bad (s := s) h)
 clear h_pre0 h_pre1
 simp only [nrm, Int.reduceEq, Int.reduceNeg, reduceIte, qYc, Int.reduceAdd, slen_0, qZm] at h_pre2 h_pre3 h_pre4 ⊢
 have ho := h_pre4
 clear h_pre4
 have hs : o = 0 ∨ (1 ≤ o ∧ o ≤ 23) := by omega
 rcases hs with hr | hr
 ·have hbad := hbad (.inr (ho.trans hr))
  unfold parF at hbad
  simp only [if_true, if_false, Int.reduceEq] at hbad
  obtain ⟨g1, g2, g3, g4, g5, g6⟩ := hbad
  rw [g1, g2, g3, g4, g5, g6]
  clear g1 g2 g3 g4 g5 g6
  repeat' (first | (constructor <;> intro _) | (intro _ hy _; subst hy))
  all_goals first | (exact ⟨rfl, rfl, rfl, rfl, rfl, rfl⟩) | (exfalso; omega) | omega
 ·obtain ⟨hY, hN⟩ := parF_0 ho hr (by omega)
  clear hbad
  have q1 := cup_r (rdZ (wrdC s) 1)
  have q2 := cup_r (rdZ (wrdC s) 2)
  have q3 := cup_r (rdZ (wrdC s) 3)
  rcases Classical.em _ with hC | hC
  rotate_left
  ·have hG := hN hC
   clear hY hN
   unfold parF at hG
   simp only [Int.reduceEq, if_false] at hG
   obtain ⟨g1, g2, g3, g4, g5, g6⟩ := hG
   rw [g1, g2, g3, g4, g5, g6]
   clear g1 g2 g3 g4 g5 g6
   repeat' (first | (constructor <;> intro _) | (intro _ hy _; subst hy))
   all_goals first
    | (exact ⟨rfl, rfl, rfl, rfl, rfl, rfl⟩)
    | (exfalso; omega)
  ·have hG := hY hC
   clear hY hN
   unfold parF at hG
   obtain ⟨g1, g2, g3, g4, g5, g6⟩ := hG
   rw [g1, g2, g3, g4, g5, g6]
   clear g1 g2 g3 g4 g5 g6
   have c1 : cupK (rdZ (wrdC s) 1) (qQq 1 (qQq (qQq 114 0) 0)) = 1 := by omega
   obtain ⟨v1, x1⟩ := cup_y c1
   have c2 : cupK (rdZ (wrdC s) 2) (qQq 1 (qQq (qQq 114 0) 0)) = 1 := by omega
   obtain ⟨v2, x2⟩ := cup_y c2
   have c3 : cupK (rdZ (wrdC s) 3) (qQq 1 (qQq (qQq 114 0) 0)) = 1 := by omega
   obtain ⟨v3, x3⟩ := cup_y c3
   simp only [v1, v2, v3]
   clear v1 x1 q1 v2 x2 q2 v3 x3 q3
   repeat' (first | (constructor <;> intro _) | (intro _ hy _; subst hy))
   all_goals first
    | (exfalso; omega)
    | omega
theorem plain (i v ro p) : statH 2 rk tree ⟨i, fN, v, ro, p⟩ = P (i 0) (i 1) := by kernel_rfl
theorem ran : ranH us (fun f _ => if [7].contains f then .unroll 400 else .auto) rk 2 tree = true := by kernel_rfl
theorem fineT : fineH 2 rk tree = true := by kernel_rfl
theorem ok : RhOk (cxOf 2) rk.rh := okH us_ok ran fineT (by kernel_rfl) okk fun i v ro p hρ hpre => by rw [plain]; have q := hρ.hi; exact holds _ _ (q 0 _ rfl).1 (q 0 _ rfl).2 (hpre _ (mg 0 rfl)) (hpre _ (mg 1 rfl)) (hpre _ (mg 2 rfl)) (hpre _ (mg 3 rfl)) (hpre _ (mg 4 rfl))
end CLPa
end Go.Proofs.YtppiabilakeadaaGreatDoor
