/-
  The law AluTells answers true at every input: the law's function is run by the engine (a program's symbolic run, proved sound), and the tree of its answers, as a plain statement, is shown to hold. No condition but the table that the row lays, tied to the program's text by the card.
-/
import Derived.Test.YtjooaieolphomaaGreatDoorRows
import Derived.Test.YtjooaieolphomaaGreatDoorLawAluTellsO
import Derived.Test.YtjooaieolphomaaGreatDoorCards
import Derived.Test.YtjooaieolphomaaGreatDoorTie
import Derived.Test.YtjooaieolphomaaGreatDoorFmM
import Derived.Test.YtjooaieolphomaaGreatDoorEu4
import Derived.Test.YtjooaieolphomaaGreatDoorEu5
import Derived.WalkKit
import Derived.ProofKit
import Derived.OpenShut
import Derived.LaidMore
import Derived.Stop.Joined
import Derived.SevenTiedAt
namespace Go.Proofs.YtjooaieolphomaaGreatDoor.aluTells
open Go.ChangeShapes Go.WideShapes Go.ChangeAt Go.RowKit
open Go.Eng
set_option linter.unusedVariables false
set_option linter.unusedSimpArgs false

set_option maxRecDepth 100000
namespace c7
def tree : TT (List E) :=
(.br (.b .eq .i64 (.v 2) (.c 0))
  (.new 1001 (.b .rem .i64 (.b .padd .i64 (.f 2 (.v 1) (.c 0) (.c 0)) (.f 2 (.v 2) (.c 0) (.c 0))) (.c 2))
  (.new 1002 (.b .rem .i64 (.b .padd .i64 (.f 2 (.v 1) (.c 1) (.c 0)) (.f 2 (.v 2) (.c 1) (.c 0))) (.c 2))
  (.new 1003 (.b .rem .i64 (.b .padd .i64 (.f 2 (.v 1) (.c 2) (.c 0)) (.f 2 (.v 2) (.c 2) (.c 0))) (.c 2))
  (.new 1004 (.b .rem .i64 (.b .padd .i64 (.f 2 (.v 1) (.c 3) (.c 0)) (.f 2 (.v 2) (.c 3) (.c 0))) (.c 2))
  (.new 1005 (.b .rem .i64 (.b .padd .i64 (.f 2 (.v 1) (.c 4) (.c 0)) (.f 2 (.v 2) (.c 4) (.c 0))) (.c 2))
  (.new 1006 (.b .rem .i64 (.b .padd .i64 (.f 2 (.v 1) (.c 5) (.c 0)) (.f 2 (.v 2) (.c 5) (.c 0))) (.c 2))
  (.new 1007 (.b .rem .i64 (.b .padd .i64 (.f 2 (.v 1) (.c 6) (.c 0)) (.f 2 (.v 2) (.c 6) (.c 0))) (.c 2))
  (.new 1008 (.b .rem .i64 (.b .padd .i64 (.f 2 (.v 1) (.c 7) (.c 0)) (.f 2 (.v 2) (.c 7) (.c 0))) (.c 2))
  (.new 1009 (.b .rem .i64 (.b .padd .i64 (.f 2 (.v 1) (.c 8) (.c 0)) (.f 2 (.v 2) (.c 8) (.c 0))) (.c 2))
  (.new 1010 (.b .rem .i64 (.b .padd .i64 (.f 2 (.v 1) (.c 9) (.c 0)) (.f 2 (.v 2) (.c 9) (.c 0))) (.c 2))
  (.new 1011 (.b .rem .i64 (.b .padd .i64 (.f 2 (.v 1) (.c 10) (.c 0)) (.f 2 (.v 2) (.c 10) (.c 0))) (.c 2))
  (.new 1012 (.b .rem .i64 (.b .padd .i64 (.f 2 (.v 1) (.c 11) (.c 0)) (.f 2 (.v 2) (.c 11) (.c 0))) (.c 2))
  (.new 1013 (.b .rem .i64 (.b .padd .i64 (.f 2 (.v 1) (.c 12) (.c 0)) (.f 2 (.v 2) (.c 12) (.c 0))) (.c 2))
  (.new 1014 (.b .rem .i64 (.b .padd .i64 (.f 2 (.v 1) (.c 13) (.c 0)) (.f 2 (.v 2) (.c 13) (.c 0))) (.c 2))
  (.new 1015 (.b .rem .i64 (.b .padd .i64 (.f 2 (.v 1) (.c 14) (.c 0)) (.f 2 (.v 2) (.c 14) (.c 0))) (.c 2))
  (.new 1016 (.b .rem .i64 (.b .padd .i64 (.f 2 (.v 1) (.c 15) (.c 0)) (.f 2 (.v 2) (.c 15) (.c 0))) (.c 2))
  (.new 1017 (.b .rem .i64 (.b .padd .i64 (.f 2 (.v 1) (.c 16) (.c 0)) (.f 2 (.v 2) (.c 16) (.c 0))) (.c 2))
  (.new 1018 (.b .rem .i64 (.b .padd .i64 (.f 2 (.v 1) (.c 17) (.c 0)) (.f 2 (.v 2) (.c 17) (.c 0))) (.c 2))
  (.new 1019 (.b .rem .i64 (.b .padd .i64 (.f 2 (.v 1) (.c 18) (.c 0)) (.f 2 (.v 2) (.c 18) (.c 0))) (.c 2))
  (.new 1020 (.b .rem .i64 (.b .padd .i64 (.f 2 (.v 1) (.c 19) (.c 0)) (.f 2 (.v 2) (.c 19) (.c 0))) (.c 2))
  (.new 1021 (.b .rem .i64 (.b .padd .i64 (.f 2 (.v 1) (.c 20) (.c 0)) (.f 2 (.v 2) (.c 20) (.c 0))) (.c 2))
  (.new 1022 (.b .rem .i64 (.b .padd .i64 (.f 2 (.v 1) (.c 21) (.c 0)) (.f 2 (.v 2) (.c 21) (.c 0))) (.c 2))
  (.new 1023 (.b .rem .i64 (.b .padd .i64 (.f 2 (.v 1) (.c 22) (.c 0)) (.f 2 (.v 2) (.c 22) (.c 0))) (.c 2))
  (.new 1024 (.b .rem .i64 (.b .padd .i64 (.f 2 (.v 1) (.c 23) (.c 0)) (.f 2 (.v 2) (.c 23) (.c 0))) (.c 2))
  (.new 1025 (.b .rem .i64 (.b .padd .i64 (.f 2 (.v 1) (.c 24) (.c 0)) (.f 2 (.v 2) (.c 24) (.c 0))) (.c 2))
  (.new 1026 (.b .rem .i64 (.b .padd .i64 (.f 2 (.v 1) (.c 25) (.c 0)) (.f 2 (.v 2) (.c 25) (.c 0))) (.c 2))
  (.new 1027 (.b .rem .i64 (.b .padd .i64 (.f 2 (.v 1) (.c 26) (.c 0)) (.f 2 (.v 2) (.c 26) (.c 0))) (.c 2))
  (.new 1028 (.b .rem .i64 (.b .padd .i64 (.f 2 (.v 1) (.c 27) (.c 0)) (.f 2 (.v 2) (.c 27) (.c 0))) (.c 2))
  (.new 1029 (.b .rem .i64 (.b .padd .i64 (.f 2 (.v 1) (.c 28) (.c 0)) (.f 2 (.v 2) (.c 28) (.c 0))) (.c 2))
  (.new 1030 (.b .rem .i64 (.b .padd .i64 (.f 2 (.v 1) (.c 29) (.c 0)) (.f 2 (.v 2) (.c 29) (.c 0))) (.c 2))
  (.new 1031 (.b .rem .i64 (.b .padd .i64 (.f 2 (.v 1) (.c 30) (.c 0)) (.f 2 (.v 2) (.c 30) (.c 0))) (.c 2))
  (.new 1032 (.b .rem .i64 (.b .padd .i64 (.f 2 (.v 1) (.c 31) (.c 0)) (.f 2 (.v 2) (.c 31) (.c 0))) (.c 2))
  (.br (.b .eq .i64 (.b .xor .i32 (.v 1) (.v 2)) (.w .i32 (.b .padd .i64 (.b .pmul .i64 (.c 2) (.b .padd .i64 (.b .pmul .i64 (.c 2) (.b .padd .i64 (.b .pmul .i64 (.c 2) (.b .padd .i64 (.b .pmul .i64 (.c 2) (.b .padd .i64 (.b .pmul .i64 (.c 2) (.b .padd .i64 (.b .pmul .i64 (.c 2) (.b .padd .i64 (.b .pmul .i64 (.c 2) (.b .padd .i64 (.b .pmul .i64 (.c 2) (.b .padd .i64 (.b .pmul .i64 (.c 2) (.b .padd .i64 (.b .pmul .i64 (.c 2) (.b .padd .i64 (.b .pmul .i64 (.c 2) (.b .padd .i64 (.b .pmul .i64 (.c 2) (.b .padd .i64 (.b .pmul .i64 (.c 2) (.b .padd .i64 (.b .pmul .i64 (.c 2) (.b .padd .i64 (.b .pmul .i64 (.c 2) (.b .padd .i64 (.b .pmul .i64 (.c 2) (.b .padd .i64 (.b .pmul .i64 (.c 2) (.b .padd .i64 (.b .pmul .i64 (.c 2) (.b .padd .i64 (.b .pmul .i64 (.c 2) (.b .padd .i64 (.b .pmul .i64 (.c 2) (.b .padd .i64 (.b .pmul .i64 (.c 2) (.b .padd .i64 (.b .pmul .i64 (.c 2) (.b .padd .i64 (.b .pmul .i64 (.c 2) (.b .padd .i64 (.b .pmul .i64 (.c 2) (.b .padd .i64 (.b .pmul .i64 (.c 2) (.b .padd .i64 (.b .pmul .i64 (.c 2) (.b .padd .i64 (.b .pmul .i64 (.c 2) (.b .padd .i64 (.b .pmul .i64 (.c 2) (.b .padd .i64 (.b .pmul .i64 (.c 2) (.b .padd .i64 (.b .pmul .i64 (.c 2) (.b .padd .i64 (.b .pmul .i64 (.c 2) (.cl 1032 0 1)) (.cl 1031 0 1))) (.cl 1030 0 1))) (.cl 1029 0 1))) (.cl 1028 0 1))) (.cl 1027 0 1))) (.cl 1026 0 1))) (.cl 1025 0 1))) (.cl 1024 0 1))) (.cl 1023 0 1))) (.cl 1022 0 1))) (.cl 1021 0 1))) (.cl 1020 0 1))) (.cl 1019 0 1))) (.cl 1018 0 1))) (.cl 1017 0 1))) (.cl 1016 0 1))) (.cl 1015 0 1))) (.cl 1014 0 1))) (.cl 1013 0 1))) (.cl 1012 0 1))) (.cl 1011 0 1))) (.cl 1010 0 1))) (.cl 1009 0 1))) (.cl 1008 0 1))) (.cl 1007 0 1))) (.cl 1006 0 1))) (.cl 1005 0 1))) (.cl 1004 0 1))) (.cl 1003 0 1))) (.cl 1002 0 1))) (.cl 1001 0 1))))
  (.br (.b .eq .i64 (.w .i64 (.f 13 (.v 3) (.c 6) (.c 0))) (.c 1))
  (.leaf [(.b .eq .i64 (.w .i64 (.b .padd .i64 (.w .i64 (.f 13 (.v 3) (.c 21) (.c 0))) (.c 3))) (.c 5))])
  (.leaf [(.c 0)]))
  (.leaf [(.c 0)]))))))))))))))))))))))))))))))))))
  (.new 1001 (.b .rem .i64 (.b .padd .i64 (.f 2 (.v 1) (.c 0) (.c 0)) (.f 2 (.v 2) (.c 0) (.c 0))) (.c 2))
  (.new 1002 (.b .rem .i64 (.b .padd .i64 (.f 2 (.v 1) (.c 1) (.c 0)) (.f 2 (.v 2) (.c 1) (.c 0))) (.c 2))
  (.new 1003 (.b .rem .i64 (.b .padd .i64 (.f 2 (.v 1) (.c 2) (.c 0)) (.f 2 (.v 2) (.c 2) (.c 0))) (.c 2))
  (.new 1004 (.b .rem .i64 (.b .padd .i64 (.f 2 (.v 1) (.c 3) (.c 0)) (.f 2 (.v 2) (.c 3) (.c 0))) (.c 2))
  (.new 1005 (.b .rem .i64 (.b .padd .i64 (.f 2 (.v 1) (.c 4) (.c 0)) (.f 2 (.v 2) (.c 4) (.c 0))) (.c 2))
  (.new 1006 (.b .rem .i64 (.b .padd .i64 (.f 2 (.v 1) (.c 5) (.c 0)) (.f 2 (.v 2) (.c 5) (.c 0))) (.c 2))
  (.new 1007 (.b .rem .i64 (.b .padd .i64 (.f 2 (.v 1) (.c 6) (.c 0)) (.f 2 (.v 2) (.c 6) (.c 0))) (.c 2))
  (.new 1008 (.b .rem .i64 (.b .padd .i64 (.f 2 (.v 1) (.c 7) (.c 0)) (.f 2 (.v 2) (.c 7) (.c 0))) (.c 2))
  (.new 1009 (.b .rem .i64 (.b .padd .i64 (.f 2 (.v 1) (.c 8) (.c 0)) (.f 2 (.v 2) (.c 8) (.c 0))) (.c 2))
  (.new 1010 (.b .rem .i64 (.b .padd .i64 (.f 2 (.v 1) (.c 9) (.c 0)) (.f 2 (.v 2) (.c 9) (.c 0))) (.c 2))
  (.new 1011 (.b .rem .i64 (.b .padd .i64 (.f 2 (.v 1) (.c 10) (.c 0)) (.f 2 (.v 2) (.c 10) (.c 0))) (.c 2))
  (.new 1012 (.b .rem .i64 (.b .padd .i64 (.f 2 (.v 1) (.c 11) (.c 0)) (.f 2 (.v 2) (.c 11) (.c 0))) (.c 2))
  (.new 1013 (.b .rem .i64 (.b .padd .i64 (.f 2 (.v 1) (.c 12) (.c 0)) (.f 2 (.v 2) (.c 12) (.c 0))) (.c 2))
  (.new 1014 (.b .rem .i64 (.b .padd .i64 (.f 2 (.v 1) (.c 13) (.c 0)) (.f 2 (.v 2) (.c 13) (.c 0))) (.c 2))
  (.new 1015 (.b .rem .i64 (.b .padd .i64 (.f 2 (.v 1) (.c 14) (.c 0)) (.f 2 (.v 2) (.c 14) (.c 0))) (.c 2))
  (.new 1016 (.b .rem .i64 (.b .padd .i64 (.f 2 (.v 1) (.c 15) (.c 0)) (.f 2 (.v 2) (.c 15) (.c 0))) (.c 2))
  (.new 1017 (.b .rem .i64 (.b .padd .i64 (.f 2 (.v 1) (.c 16) (.c 0)) (.f 2 (.v 2) (.c 16) (.c 0))) (.c 2))
  (.new 1018 (.b .rem .i64 (.b .padd .i64 (.f 2 (.v 1) (.c 17) (.c 0)) (.f 2 (.v 2) (.c 17) (.c 0))) (.c 2))
  (.new 1019 (.b .rem .i64 (.b .padd .i64 (.f 2 (.v 1) (.c 18) (.c 0)) (.f 2 (.v 2) (.c 18) (.c 0))) (.c 2))
  (.new 1020 (.b .rem .i64 (.b .padd .i64 (.f 2 (.v 1) (.c 19) (.c 0)) (.f 2 (.v 2) (.c 19) (.c 0))) (.c 2))
  (.new 1021 (.b .rem .i64 (.b .padd .i64 (.f 2 (.v 1) (.c 20) (.c 0)) (.f 2 (.v 2) (.c 20) (.c 0))) (.c 2))
  (.new 1022 (.b .rem .i64 (.b .padd .i64 (.f 2 (.v 1) (.c 21) (.c 0)) (.f 2 (.v 2) (.c 21) (.c 0))) (.c 2))
  (.new 1023 (.b .rem .i64 (.b .padd .i64 (.f 2 (.v 1) (.c 22) (.c 0)) (.f 2 (.v 2) (.c 22) (.c 0))) (.c 2))
  (.new 1024 (.b .rem .i64 (.b .padd .i64 (.f 2 (.v 1) (.c 23) (.c 0)) (.f 2 (.v 2) (.c 23) (.c 0))) (.c 2))
  (.new 1025 (.b .rem .i64 (.b .padd .i64 (.f 2 (.v 1) (.c 24) (.c 0)) (.f 2 (.v 2) (.c 24) (.c 0))) (.c 2))
  (.new 1026 (.b .rem .i64 (.b .padd .i64 (.f 2 (.v 1) (.c 25) (.c 0)) (.f 2 (.v 2) (.c 25) (.c 0))) (.c 2))
  (.new 1027 (.b .rem .i64 (.b .padd .i64 (.f 2 (.v 1) (.c 26) (.c 0)) (.f 2 (.v 2) (.c 26) (.c 0))) (.c 2))
  (.new 1028 (.b .rem .i64 (.b .padd .i64 (.f 2 (.v 1) (.c 27) (.c 0)) (.f 2 (.v 2) (.c 27) (.c 0))) (.c 2))
  (.new 1029 (.b .rem .i64 (.b .padd .i64 (.f 2 (.v 1) (.c 28) (.c 0)) (.f 2 (.v 2) (.c 28) (.c 0))) (.c 2))
  (.new 1030 (.b .rem .i64 (.b .padd .i64 (.f 2 (.v 1) (.c 29) (.c 0)) (.f 2 (.v 2) (.c 29) (.c 0))) (.c 2))
  (.new 1031 (.b .rem .i64 (.b .padd .i64 (.f 2 (.v 1) (.c 30) (.c 0)) (.f 2 (.v 2) (.c 30) (.c 0))) (.c 2))
  (.new 1032 (.b .rem .i64 (.b .padd .i64 (.f 2 (.v 1) (.c 31) (.c 0)) (.f 2 (.v 2) (.c 31) (.c 0))) (.c 2))
  (.br (.b .eq .i64 (.b .xor .i32 (.v 1) (.v 2)) (.w .i32 (.b .padd .i64 (.b .pmul .i64 (.c 2) (.b .padd .i64 (.b .pmul .i64 (.c 2) (.b .padd .i64 (.b .pmul .i64 (.c 2) (.b .padd .i64 (.b .pmul .i64 (.c 2) (.b .padd .i64 (.b .pmul .i64 (.c 2) (.b .padd .i64 (.b .pmul .i64 (.c 2) (.b .padd .i64 (.b .pmul .i64 (.c 2) (.b .padd .i64 (.b .pmul .i64 (.c 2) (.b .padd .i64 (.b .pmul .i64 (.c 2) (.b .padd .i64 (.b .pmul .i64 (.c 2) (.b .padd .i64 (.b .pmul .i64 (.c 2) (.b .padd .i64 (.b .pmul .i64 (.c 2) (.b .padd .i64 (.b .pmul .i64 (.c 2) (.b .padd .i64 (.b .pmul .i64 (.c 2) (.b .padd .i64 (.b .pmul .i64 (.c 2) (.b .padd .i64 (.b .pmul .i64 (.c 2) (.b .padd .i64 (.b .pmul .i64 (.c 2) (.b .padd .i64 (.b .pmul .i64 (.c 2) (.b .padd .i64 (.b .pmul .i64 (.c 2) (.b .padd .i64 (.b .pmul .i64 (.c 2) (.b .padd .i64 (.b .pmul .i64 (.c 2) (.b .padd .i64 (.b .pmul .i64 (.c 2) (.b .padd .i64 (.b .pmul .i64 (.c 2) (.b .padd .i64 (.b .pmul .i64 (.c 2) (.b .padd .i64 (.b .pmul .i64 (.c 2) (.b .padd .i64 (.b .pmul .i64 (.c 2) (.b .padd .i64 (.b .pmul .i64 (.c 2) (.b .padd .i64 (.b .pmul .i64 (.c 2) (.b .padd .i64 (.b .pmul .i64 (.c 2) (.b .padd .i64 (.b .pmul .i64 (.c 2) (.b .padd .i64 (.b .pmul .i64 (.c 2) (.cl 1032 0 1)) (.cl 1031 0 1))) (.cl 1030 0 1))) (.cl 1029 0 1))) (.cl 1028 0 1))) (.cl 1027 0 1))) (.cl 1026 0 1))) (.cl 1025 0 1))) (.cl 1024 0 1))) (.cl 1023 0 1))) (.cl 1022 0 1))) (.cl 1021 0 1))) (.cl 1020 0 1))) (.cl 1019 0 1))) (.cl 1018 0 1))) (.cl 1017 0 1))) (.cl 1016 0 1))) (.cl 1015 0 1))) (.cl 1014 0 1))) (.cl 1013 0 1))) (.cl 1012 0 1))) (.cl 1011 0 1))) (.cl 1010 0 1))) (.cl 1009 0 1))) (.cl 1008 0 1))) (.cl 1007 0 1))) (.cl 1006 0 1))) (.cl 1005 0 1))) (.cl 1004 0 1))) (.cl 1003 0 1))) (.cl 1002 0 1))) (.cl 1001 0 1))))
  (.br (.b .eq .i64 (.w .i64 (.f 13 (.v 3) (.c 6) (.c 0))) (.c 1))
  (.leaf [(.b .eq .i64 (.w .i64 (.b .padd .i64 (.w .i64 (.f 13 (.v 3) (.c 21) (.c 0))) (.c 3))) (.c 5))])
  (.leaf [(.c 0)]))
  (.leaf [(.c 0)])))))))))))))))))))))))))))))))))))

def P (a0 a1 a2 a3 : Int) : Prop :=
 (((bool01 (a2 == 0)) ≠ 0 →
  ∀ y1001 : Int, y1001 = (BO.ev .rem .i64 ((bitZ a1 0) + (bitZ a2 0)) 2) → (0 ≤ y1001 ∧ y1001 ≤ 1) →
  ∀ y1002 : Int, y1002 = (BO.ev .rem .i64 ((bitZ a1 1) + (bitZ a2 1)) 2) → (0 ≤ y1002 ∧ y1002 ≤ 1) →
  ∀ y1003 : Int, y1003 = (BO.ev .rem .i64 ((bitZ a1 2) + (bitZ a2 2)) 2) → (0 ≤ y1003 ∧ y1003 ≤ 1) →
  ∀ y1004 : Int, y1004 = (BO.ev .rem .i64 ((bitZ a1 3) + (bitZ a2 3)) 2) → (0 ≤ y1004 ∧ y1004 ≤ 1) →
  ∀ y1005 : Int, y1005 = (BO.ev .rem .i64 ((bitZ a1 4) + (bitZ a2 4)) 2) → (0 ≤ y1005 ∧ y1005 ≤ 1) →
  ∀ y1006 : Int, y1006 = (BO.ev .rem .i64 ((bitZ a1 5) + (bitZ a2 5)) 2) → (0 ≤ y1006 ∧ y1006 ≤ 1) →
  ∀ y1007 : Int, y1007 = (BO.ev .rem .i64 ((bitZ a1 6) + (bitZ a2 6)) 2) → (0 ≤ y1007 ∧ y1007 ≤ 1) →
  ∀ y1008 : Int, y1008 = (BO.ev .rem .i64 ((bitZ a1 7) + (bitZ a2 7)) 2) → (0 ≤ y1008 ∧ y1008 ≤ 1) →
  ∀ y1009 : Int, y1009 = (BO.ev .rem .i64 ((bitZ a1 8) + (bitZ a2 8)) 2) → (0 ≤ y1009 ∧ y1009 ≤ 1) →
  ∀ y1010 : Int, y1010 = (BO.ev .rem .i64 ((bitZ a1 9) + (bitZ a2 9)) 2) → (0 ≤ y1010 ∧ y1010 ≤ 1) →
  ∀ y1011 : Int, y1011 = (BO.ev .rem .i64 ((bitZ a1 10) + (bitZ a2 10)) 2) → (0 ≤ y1011 ∧ y1011 ≤ 1) →
  ∀ y1012 : Int, y1012 = (BO.ev .rem .i64 ((bitZ a1 11) + (bitZ a2 11)) 2) → (0 ≤ y1012 ∧ y1012 ≤ 1) →
  ∀ y1013 : Int, y1013 = (BO.ev .rem .i64 ((bitZ a1 12) + (bitZ a2 12)) 2) → (0 ≤ y1013 ∧ y1013 ≤ 1) →
  ∀ y1014 : Int, y1014 = (BO.ev .rem .i64 ((bitZ a1 13) + (bitZ a2 13)) 2) → (0 ≤ y1014 ∧ y1014 ≤ 1) →
  ∀ y1015 : Int, y1015 = (BO.ev .rem .i64 ((bitZ a1 14) + (bitZ a2 14)) 2) → (0 ≤ y1015 ∧ y1015 ≤ 1) →
  ∀ y1016 : Int, y1016 = (BO.ev .rem .i64 ((bitZ a1 15) + (bitZ a2 15)) 2) → (0 ≤ y1016 ∧ y1016 ≤ 1) →
  ∀ y1017 : Int, y1017 = (BO.ev .rem .i64 ((bitZ a1 16) + (bitZ a2 16)) 2) → (0 ≤ y1017 ∧ y1017 ≤ 1) →
  ∀ y1018 : Int, y1018 = (BO.ev .rem .i64 ((bitZ a1 17) + (bitZ a2 17)) 2) → (0 ≤ y1018 ∧ y1018 ≤ 1) →
  ∀ y1019 : Int, y1019 = (BO.ev .rem .i64 ((bitZ a1 18) + (bitZ a2 18)) 2) → (0 ≤ y1019 ∧ y1019 ≤ 1) →
  ∀ y1020 : Int, y1020 = (BO.ev .rem .i64 ((bitZ a1 19) + (bitZ a2 19)) 2) → (0 ≤ y1020 ∧ y1020 ≤ 1) →
  ∀ y1021 : Int, y1021 = (BO.ev .rem .i64 ((bitZ a1 20) + (bitZ a2 20)) 2) → (0 ≤ y1021 ∧ y1021 ≤ 1) →
  ∀ y1022 : Int, y1022 = (BO.ev .rem .i64 ((bitZ a1 21) + (bitZ a2 21)) 2) → (0 ≤ y1022 ∧ y1022 ≤ 1) →
  ∀ y1023 : Int, y1023 = (BO.ev .rem .i64 ((bitZ a1 22) + (bitZ a2 22)) 2) → (0 ≤ y1023 ∧ y1023 ≤ 1) →
  ∀ y1024 : Int, y1024 = (BO.ev .rem .i64 ((bitZ a1 23) + (bitZ a2 23)) 2) → (0 ≤ y1024 ∧ y1024 ≤ 1) →
  ∀ y1025 : Int, y1025 = (BO.ev .rem .i64 ((bitZ a1 24) + (bitZ a2 24)) 2) → (0 ≤ y1025 ∧ y1025 ≤ 1) →
  ∀ y1026 : Int, y1026 = (BO.ev .rem .i64 ((bitZ a1 25) + (bitZ a2 25)) 2) → (0 ≤ y1026 ∧ y1026 ≤ 1) →
  ∀ y1027 : Int, y1027 = (BO.ev .rem .i64 ((bitZ a1 26) + (bitZ a2 26)) 2) → (0 ≤ y1027 ∧ y1027 ≤ 1) →
  ∀ y1028 : Int, y1028 = (BO.ev .rem .i64 ((bitZ a1 27) + (bitZ a2 27)) 2) → (0 ≤ y1028 ∧ y1028 ≤ 1) →
  ∀ y1029 : Int, y1029 = (BO.ev .rem .i64 ((bitZ a1 28) + (bitZ a2 28)) 2) → (0 ≤ y1029 ∧ y1029 ≤ 1) →
  ∀ y1030 : Int, y1030 = (BO.ev .rem .i64 ((bitZ a1 29) + (bitZ a2 29)) 2) → (0 ≤ y1030 ∧ y1030 ≤ 1) →
  ∀ y1031 : Int, y1031 = (BO.ev .rem .i64 ((bitZ a1 30) + (bitZ a2 30)) 2) → (0 ≤ y1031 ∧ y1031 ≤ 1) →
  ∀ y1032 : Int, y1032 = (BO.ev .rem .i64 ((bitZ a1 31) + (bitZ a2 31)) 2) → (0 ≤ y1032 ∧ y1032 ≤ 1) →
  (((bool01 ((bxor .i32 a1 a2) == (IntKind.wrap .i32 ((2 * ((2 * ((2 * ((2 * ((2 * ((2 * ((2 * ((2 * ((2 * ((2 * ((2 * ((2 * ((2 * ((2 * ((2 * ((2 * ((2 * ((2 * ((2 * ((2 * ((2 * ((2 * ((2 * ((2 * ((2 * ((2 * ((2 * ((2 * ((2 * ((2 * ((2 * y1032) + y1031)) + y1030)) + y1029)) + y1028)) + y1027)) + y1026)) + y1025)) + y1024)) + y1023)) + y1022)) + y1021)) + y1020)) + y1019)) + y1018)) + y1017)) + y1016)) + y1015)) + y1014)) + y1013)) + y1012)) + y1011)) + y1010)) + y1009)) + y1008)) + y1007)) + y1006)) + y1005)) + y1004)) + y1003)) + y1002)) + y1001)))) ≠ 0 →
   (((bool01 ((IntKind.wrap .i64 (rdZ a3 6)) == 1)) ≠ 0 →
    ((bool01 ((IntKind.wrap .i64 ((IntKind.wrap .i64 (rdZ a3 21)) + 3)) == 5)) : Int) ≠ 0) ∧ ((bool01 ((IntKind.wrap .i64 (rdZ a3 6)) == 1)) = 0 →
    (0 : Int) ≠ 0))) ∧ ((bool01 ((bxor .i32 a1 a2) == (IntKind.wrap .i32 ((2 * ((2 * ((2 * ((2 * ((2 * ((2 * ((2 * ((2 * ((2 * ((2 * ((2 * ((2 * ((2 * ((2 * ((2 * ((2 * ((2 * ((2 * ((2 * ((2 * ((2 * ((2 * ((2 * ((2 * ((2 * ((2 * ((2 * ((2 * ((2 * ((2 * ((2 * y1032) + y1031)) + y1030)) + y1029)) + y1028)) + y1027)) + y1026)) + y1025)) + y1024)) + y1023)) + y1022)) + y1021)) + y1020)) + y1019)) + y1018)) + y1017)) + y1016)) + y1015)) + y1014)) + y1013)) + y1012)) + y1011)) + y1010)) + y1009)) + y1008)) + y1007)) + y1006)) + y1005)) + y1004)) + y1003)) + y1002)) + y1001)))) = 0 →
   (0 : Int) ≠ 0))) ∧ ((bool01 (a2 == 0)) = 0 →
  ∀ y1001 : Int, y1001 = (BO.ev .rem .i64 ((bitZ a1 0) + (bitZ a2 0)) 2) → (0 ≤ y1001 ∧ y1001 ≤ 1) →
  ∀ y1002 : Int, y1002 = (BO.ev .rem .i64 ((bitZ a1 1) + (bitZ a2 1)) 2) → (0 ≤ y1002 ∧ y1002 ≤ 1) →
  ∀ y1003 : Int, y1003 = (BO.ev .rem .i64 ((bitZ a1 2) + (bitZ a2 2)) 2) → (0 ≤ y1003 ∧ y1003 ≤ 1) →
  ∀ y1004 : Int, y1004 = (BO.ev .rem .i64 ((bitZ a1 3) + (bitZ a2 3)) 2) → (0 ≤ y1004 ∧ y1004 ≤ 1) →
  ∀ y1005 : Int, y1005 = (BO.ev .rem .i64 ((bitZ a1 4) + (bitZ a2 4)) 2) → (0 ≤ y1005 ∧ y1005 ≤ 1) →
  ∀ y1006 : Int, y1006 = (BO.ev .rem .i64 ((bitZ a1 5) + (bitZ a2 5)) 2) → (0 ≤ y1006 ∧ y1006 ≤ 1) →
  ∀ y1007 : Int, y1007 = (BO.ev .rem .i64 ((bitZ a1 6) + (bitZ a2 6)) 2) → (0 ≤ y1007 ∧ y1007 ≤ 1) →
  ∀ y1008 : Int, y1008 = (BO.ev .rem .i64 ((bitZ a1 7) + (bitZ a2 7)) 2) → (0 ≤ y1008 ∧ y1008 ≤ 1) →
  ∀ y1009 : Int, y1009 = (BO.ev .rem .i64 ((bitZ a1 8) + (bitZ a2 8)) 2) → (0 ≤ y1009 ∧ y1009 ≤ 1) →
  ∀ y1010 : Int, y1010 = (BO.ev .rem .i64 ((bitZ a1 9) + (bitZ a2 9)) 2) → (0 ≤ y1010 ∧ y1010 ≤ 1) →
  ∀ y1011 : Int, y1011 = (BO.ev .rem .i64 ((bitZ a1 10) + (bitZ a2 10)) 2) → (0 ≤ y1011 ∧ y1011 ≤ 1) →
  ∀ y1012 : Int, y1012 = (BO.ev .rem .i64 ((bitZ a1 11) + (bitZ a2 11)) 2) → (0 ≤ y1012 ∧ y1012 ≤ 1) →
  ∀ y1013 : Int, y1013 = (BO.ev .rem .i64 ((bitZ a1 12) + (bitZ a2 12)) 2) → (0 ≤ y1013 ∧ y1013 ≤ 1) →
  ∀ y1014 : Int, y1014 = (BO.ev .rem .i64 ((bitZ a1 13) + (bitZ a2 13)) 2) → (0 ≤ y1014 ∧ y1014 ≤ 1) →
  ∀ y1015 : Int, y1015 = (BO.ev .rem .i64 ((bitZ a1 14) + (bitZ a2 14)) 2) → (0 ≤ y1015 ∧ y1015 ≤ 1) →
  ∀ y1016 : Int, y1016 = (BO.ev .rem .i64 ((bitZ a1 15) + (bitZ a2 15)) 2) → (0 ≤ y1016 ∧ y1016 ≤ 1) →
  ∀ y1017 : Int, y1017 = (BO.ev .rem .i64 ((bitZ a1 16) + (bitZ a2 16)) 2) → (0 ≤ y1017 ∧ y1017 ≤ 1) →
  ∀ y1018 : Int, y1018 = (BO.ev .rem .i64 ((bitZ a1 17) + (bitZ a2 17)) 2) → (0 ≤ y1018 ∧ y1018 ≤ 1) →
  ∀ y1019 : Int, y1019 = (BO.ev .rem .i64 ((bitZ a1 18) + (bitZ a2 18)) 2) → (0 ≤ y1019 ∧ y1019 ≤ 1) →
  ∀ y1020 : Int, y1020 = (BO.ev .rem .i64 ((bitZ a1 19) + (bitZ a2 19)) 2) → (0 ≤ y1020 ∧ y1020 ≤ 1) →
  ∀ y1021 : Int, y1021 = (BO.ev .rem .i64 ((bitZ a1 20) + (bitZ a2 20)) 2) → (0 ≤ y1021 ∧ y1021 ≤ 1) →
  ∀ y1022 : Int, y1022 = (BO.ev .rem .i64 ((bitZ a1 21) + (bitZ a2 21)) 2) → (0 ≤ y1022 ∧ y1022 ≤ 1) →
  ∀ y1023 : Int, y1023 = (BO.ev .rem .i64 ((bitZ a1 22) + (bitZ a2 22)) 2) → (0 ≤ y1023 ∧ y1023 ≤ 1) →
  ∀ y1024 : Int, y1024 = (BO.ev .rem .i64 ((bitZ a1 23) + (bitZ a2 23)) 2) → (0 ≤ y1024 ∧ y1024 ≤ 1) →
  ∀ y1025 : Int, y1025 = (BO.ev .rem .i64 ((bitZ a1 24) + (bitZ a2 24)) 2) → (0 ≤ y1025 ∧ y1025 ≤ 1) →
  ∀ y1026 : Int, y1026 = (BO.ev .rem .i64 ((bitZ a1 25) + (bitZ a2 25)) 2) → (0 ≤ y1026 ∧ y1026 ≤ 1) →
  ∀ y1027 : Int, y1027 = (BO.ev .rem .i64 ((bitZ a1 26) + (bitZ a2 26)) 2) → (0 ≤ y1027 ∧ y1027 ≤ 1) →
  ∀ y1028 : Int, y1028 = (BO.ev .rem .i64 ((bitZ a1 27) + (bitZ a2 27)) 2) → (0 ≤ y1028 ∧ y1028 ≤ 1) →
  ∀ y1029 : Int, y1029 = (BO.ev .rem .i64 ((bitZ a1 28) + (bitZ a2 28)) 2) → (0 ≤ y1029 ∧ y1029 ≤ 1) →
  ∀ y1030 : Int, y1030 = (BO.ev .rem .i64 ((bitZ a1 29) + (bitZ a2 29)) 2) → (0 ≤ y1030 ∧ y1030 ≤ 1) →
  ∀ y1031 : Int, y1031 = (BO.ev .rem .i64 ((bitZ a1 30) + (bitZ a2 30)) 2) → (0 ≤ y1031 ∧ y1031 ≤ 1) →
  ∀ y1032 : Int, y1032 = (BO.ev .rem .i64 ((bitZ a1 31) + (bitZ a2 31)) 2) → (0 ≤ y1032 ∧ y1032 ≤ 1) →
  (((bool01 ((bxor .i32 a1 a2) == (IntKind.wrap .i32 ((2 * ((2 * ((2 * ((2 * ((2 * ((2 * ((2 * ((2 * ((2 * ((2 * ((2 * ((2 * ((2 * ((2 * ((2 * ((2 * ((2 * ((2 * ((2 * ((2 * ((2 * ((2 * ((2 * ((2 * ((2 * ((2 * ((2 * ((2 * ((2 * ((2 * ((2 * y1032) + y1031)) + y1030)) + y1029)) + y1028)) + y1027)) + y1026)) + y1025)) + y1024)) + y1023)) + y1022)) + y1021)) + y1020)) + y1019)) + y1018)) + y1017)) + y1016)) + y1015)) + y1014)) + y1013)) + y1012)) + y1011)) + y1010)) + y1009)) + y1008)) + y1007)) + y1006)) + y1005)) + y1004)) + y1003)) + y1002)) + y1001)))) ≠ 0 →
   (((bool01 ((IntKind.wrap .i64 (rdZ a3 6)) == 1)) ≠ 0 →
    ((bool01 ((IntKind.wrap .i64 ((IntKind.wrap .i64 (rdZ a3 21)) + 3)) == 5)) : Int) ≠ 0) ∧ ((bool01 ((IntKind.wrap .i64 (rdZ a3 6)) == 1)) = 0 →
    (0 : Int) ≠ 0))) ∧ ((bool01 ((bxor .i32 a1 a2) == (IntKind.wrap .i32 ((2 * ((2 * ((2 * ((2 * ((2 * ((2 * ((2 * ((2 * ((2 * ((2 * ((2 * ((2 * ((2 * ((2 * ((2 * ((2 * ((2 * ((2 * ((2 * ((2 * ((2 * ((2 * ((2 * ((2 * ((2 * ((2 * ((2 * ((2 * ((2 * ((2 * ((2 * y1032) + y1031)) + y1030)) + y1029)) + y1028)) + y1027)) + y1026)) + y1025)) + y1024)) + y1023)) + y1022)) + y1021)) + y1020)) + y1019)) + y1018)) + y1017)) + y1016)) + y1015)) + y1014)) + y1013)) + y1012)) + y1011)) + y1010)) + y1009)) + y1008)) + y1007)) + y1006)) + y1005)) + y1004)) + y1003)) + y1002)) + y1001)))) = 0 →
   (0 : Int) ≠ 0))))

theorem plain (a0 a1 a2 a3 : Int) (ro : List RO) : TT.hdP (cxOf 2 [(7, 7), (-2147483648, 2147483647), (-2147483648, 2147483647)] [⟨[.int .i64], .v 3, .c 43, .c 43, some 0⟩]) isOne tree (envR [a0, a1, a2, a3] ro) = P a0 a1 a2 a3 := by kernel_rfl

theorem holds (a0 a1 a2 : Int) (l0 : 7 ≤ a0) (u0 : a0 ≤ 7) (l1 : -2147483648 ≤ a1) (u1 : a1 ≤ 2147483647) (l2 : -2147483648 ≤ a2) (u2 : a2 ≤ 2147483647) : P a0 a1 a2 (LZ tab0) := by
  have h5 : (IntKind.wrap .i64 ((IntKind.wrap .i64 (rdZ (LZ tab0) 21)) + 3)) = 5 := by rw [rdZ_LZ]; decide
  have r1 : IntKind.wrap .i64 (rdZ (LZ tab0) (6)) = 1 := by rw [rdZ_LZ]; decide
  have e := xor_each a1 a2
  simp only [eachN] at e
  clear l0 u0
  unfold P
  first
    | (refine ⟨fun _ => ?_, fun _ => ?_⟩ <;> intros <;> subst_vars <;> rw [e] <;> simp [h5, r1, bool01]; done)
    | (intros; subst_vars; rw [e]; simp [h5, r1, bool01]; done)

theorem ran : TT.beq (projL pjB (runA [(7, 7), (-2147483648, 2147483647), (-2147483648, 2147483647)] 3 [.int .i64 (.c 7), .int .i32 (.v 1), .int .i32 (.v 2)] ⟨[], []⟩)) tree = true := by kernel_rfl
theorem fineT : (TT.fine (cxOf 2 [(7, 7), (-2147483648, 2147483647), (-2147483648, 2147483647)] [⟨[.int .i64], .v 3, .c 43, .c 43, some 0⟩]) 1000 [] tree && (cxOf 2 [(7, 7), (-2147483648, 2147483647), (-2147483648, 2147483647)] [⟨[.int .i64], .v 3, .c 43, .c 43, some 0⟩]).okB 1000 && SV.vbL 1000 [.int .i64 (.c 7), .int .i32 (.v 1), .int .i32 (.v 2)] && TT.tidy (cxOf 2 [(7, 7), (-2147483648, 2147483647), (-2147483648, 2147483647)] [⟨[.int .i64], .v 3, .c 43, .c 43, some 0⟩]) [] tree) = true := by kernel_rfl
theorem walk (a0 a1 a2 : Int) (w0 : (Lit.int .i64 a0).wf = true) (w1 : (Lit.int .i32 a1).wf = true) (w2 : (Lit.int .i32 a2).wf = true) (w : World) (t0 : Lib.TabIs Tryz.prog w "astrolabe/ops.costs" .i64 tab0) (hc : 7 ≤ a0 ∧ a0 ≤ 7) :
    Calls Tryz.prog 3 #[.int .i64 a0, .int .i32 a1, .int .i32 a2] w fun e w' => e = .returned (.bool true) ∧ Below w.heap.size w w' :=
  lawT_of (runA_ok [(7, 7), (-2147483648, 2147483647), (-2147483648, 2147483647)]) (ρ := envR [a0, a1, a2, LZ tab0] [tabRo 0 .i64 tab0]) (envR_ok (cx := cxOf 2 [(7, 7), (-2147483648, 2147483647), (-2147483648, 2147483647)] [⟨[.int .i64], .v 3, .c 43, .c 43, some 0⟩]) rfl rfl (bnd_cons hc (bnd_cons (wf_bd w1) (bnd_cons (wf_bd w2) (bnd_nil _)))) ⟨⟨rfl, rfl, rfl, rfl, (fun h => by cases h), fun g h => by cases h; rfl⟩, trivial⟩) (f := 3) (args := [.int .i64 (.c 7), .int .i32 (.v 1), .int .i32 (.v 2)]) (t := tree) ran fineT
    (by rw [plain]; exact holds a0 a1 a2 hc.1 hc.2 (wf_bd w1).1 (wf_bd w1).2 (wf_bd w2).1 (wf_bd w2).2) (roOk_of ⟨tabRo_at t0 tabG0 tabW0, trivial⟩) (by obtain rfl : a0 = 7 := (by omega); rfl)

end c7
end Go.Proofs.YtjooaieolphomaaGreatDoor.aluTells
