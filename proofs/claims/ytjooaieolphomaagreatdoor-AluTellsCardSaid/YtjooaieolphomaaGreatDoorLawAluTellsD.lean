/-
  The law AluTells answers true at every input: the law's function is run by the engine (a program's symbolic run, proved sound), and the tree of its answers, as a plain statement, is shown to hold. No condition but the table that the row lays, tied to the program's text by the card.
-/
import Derived.Test.YtjooaieolphomaaGreatDoorRows
import Derived.Test.YtjooaieolphomaaGreatDoorLawAluTellsO
import Derived.Test.YtjooaieolphomaaGreatDoorCards
import Derived.Test.YtjooaieolphomaaGreatDoorTie
import Derived.Test.YtjooaieolphomaaGreatDoorFmM
import Derived.Test.YtjooaieolphomaaGreatDoorEu4
import Derived.Test.YtjooaieolphomaaGreatDoorEu5
import Derived.WalkKit
import Derived.ProofKit
import Derived.OpenShut
import Derived.LaidMore
import Derived.Stop.Joined
import Derived.SevenTiedAt
namespace Go.Proofs.YtjooaieolphomaaGreatDoor.aluTells
open Go.ChangeShapes Go.WideShapes Go.ChangeAt Go.RowKit
open Go.Eng
set_option linter.unusedVariables false
set_option linter.unusedSimpArgs false

set_option maxRecDepth 100000
namespace c8
def tree : TT (List E) :=
(.br (.b .eq .i64 (.v 2) (.c 0))
  (.new 1001 (.b .pmul .i64 (.f 2 (.v 1) (.c 0) (.c 0)) (.b .psub .i64 (.c 1) (.f 2 (.v 2) (.c 0) (.c 0))))
  (.new 1002 (.b .pmul .i64 (.f 2 (.v 1) (.c 1) (.c 0)) (.b .psub .i64 (.c 1) (.f 2 (.v 2) (.c 1) (.c 0))))
  (.new 1003 (.b .pmul .i64 (.f 2 (.v 1) (.c 2) (.c 0)) (.b .psub .i64 (.c 1) (.f 2 (.v 2) (.c 2) (.c 0))))
  (.new 1004 (.b .pmul .i64 (.f 2 (.v 1) (.c 3) (.c 0)) (.b .psub .i64 (.c 1) (.f 2 (.v 2) (.c 3) (.c 0))))
  (.new 1005 (.b .pmul .i64 (.f 2 (.v 1) (.c 4) (.c 0)) (.b .psub .i64 (.c 1) (.f 2 (.v 2) (.c 4) (.c 0))))
  (.new 1006 (.b .pmul .i64 (.f 2 (.v 1) (.c 5) (.c 0)) (.b .psub .i64 (.c 1) (.f 2 (.v 2) (.c 5) (.c 0))))
  (.new 1007 (.b .pmul .i64 (.f 2 (.v 1) (.c 6) (.c 0)) (.b .psub .i64 (.c 1) (.f 2 (.v 2) (.c 6) (.c 0))))
  (.new 1008 (.b .pmul .i64 (.f 2 (.v 1) (.c 7) (.c 0)) (.b .psub .i64 (.c 1) (.f 2 (.v 2) (.c 7) (.c 0))))
  (.new 1009 (.b .pmul .i64 (.f 2 (.v 1) (.c 8) (.c 0)) (.b .psub .i64 (.c 1) (.f 2 (.v 2) (.c 8) (.c 0))))
  (.new 1010 (.b .pmul .i64 (.f 2 (.v 1) (.c 9) (.c 0)) (.b .psub .i64 (.c 1) (.f 2 (.v 2) (.c 9) (.c 0))))
  (.new 1011 (.b .pmul .i64 (.f 2 (.v 1) (.c 10) (.c 0)) (.b .psub .i64 (.c 1) (.f 2 (.v 2) (.c 10) (.c 0))))
  (.new 1012 (.b .pmul .i64 (.f 2 (.v 1) (.c 11) (.c 0)) (.b .psub .i64 (.c 1) (.f 2 (.v 2) (.c 11) (.c 0))))
  (.new 1013 (.b .pmul .i64 (.f 2 (.v 1) (.c 12) (.c 0)) (.b .psub .i64 (.c 1) (.f 2 (.v 2) (.c 12) (.c 0))))
  (.new 1014 (.b .pmul .i64 (.f 2 (.v 1) (.c 13) (.c 0)) (.b .psub .i64 (.c 1) (.f 2 (.v 2) (.c 13) (.c 0))))
  (.new 1015 (.b .pmul .i64 (.f 2 (.v 1) (.c 14) (.c 0)) (.b .psub .i64 (.c 1) (.f 2 (.v 2) (.c 14) (.c 0))))
  (.new 1016 (.b .pmul .i64 (.f 2 (.v 1) (.c 15) (.c 0)) (.b .psub .i64 (.c 1) (.f 2 (.v 2) (.c 15) (.c 0))))
  (.new 1017 (.b .pmul .i64 (.f 2 (.v 1) (.c 16) (.c 0)) (.b .psub .i64 (.c 1) (.f 2 (.v 2) (.c 16) (.c 0))))
  (.new 1018 (.b .pmul .i64 (.f 2 (.v 1) (.c 17) (.c 0)) (.b .psub .i64 (.c 1) (.f 2 (.v 2) (.c 17) (.c 0))))
  (.new 1019 (.b .pmul .i64 (.f 2 (.v 1) (.c 18) (.c 0)) (.b .psub .i64 (.c 1) (.f 2 (.v 2) (.c 18) (.c 0))))
  (.new 1020 (.b .pmul .i64 (.f 2 (.v 1) (.c 19) (.c 0)) (.b .psub .i64 (.c 1) (.f 2 (.v 2) (.c 19) (.c 0))))
  (.new 1021 (.b .pmul .i64 (.f 2 (.v 1) (.c 20) (.c 0)) (.b .psub .i64 (.c 1) (.f 2 (.v 2) (.c 20) (.c 0))))
  (.new 1022 (.b .pmul .i64 (.f 2 (.v 1) (.c 21) (.c 0)) (.b .psub .i64 (.c 1) (.f 2 (.v 2) (.c 21) (.c 0))))
  (.new 1023 (.b .pmul .i64 (.f 2 (.v 1) (.c 22) (.c 0)) (.b .psub .i64 (.c 1) (.f 2 (.v 2) (.c 22) (.c 0))))
  (.new 1024 (.b .pmul .i64 (.f 2 (.v 1) (.c 23) (.c 0)) (.b .psub .i64 (.c 1) (.f 2 (.v 2) (.c 23) (.c 0))))
  (.new 1025 (.b .pmul .i64 (.f 2 (.v 1) (.c 24) (.c 0)) (.b .psub .i64 (.c 1) (.f 2 (.v 2) (.c 24) (.c 0))))
  (.new 1026 (.b .pmul .i64 (.f 2 (.v 1) (.c 25) (.c 0)) (.b .psub .i64 (.c 1) (.f 2 (.v 2) (.c 25) (.c 0))))
  (.new 1027 (.b .pmul .i64 (.f 2 (.v 1) (.c 26) (.c 0)) (.b .psub .i64 (.c 1) (.f 2 (.v 2) (.c 26) (.c 0))))
  (.new 1028 (.b .pmul .i64 (.f 2 (.v 1) (.c 27) (.c 0)) (.b .psub .i64 (.c 1) (.f 2 (.v 2) (.c 27) (.c 0))))
  (.new 1029 (.b .pmul .i64 (.f 2 (.v 1) (.c 28) (.c 0)) (.b .psub .i64 (.c 1) (.f 2 (.v 2) (.c 28) (.c 0))))
  (.new 1030 (.b .pmul .i64 (.f 2 (.v 1) (.c 29) (.c 0)) (.b .psub .i64 (.c 1) (.f 2 (.v 2) (.c 29) (.c 0))))
  (.new 1031 (.b .pmul .i64 (.f 2 (.v 1) (.c 30) (.c 0)) (.b .psub .i64 (.c 1) (.f 2 (.v 2) (.c 30) (.c 0))))
  (.new 1032 (.b .pmul .i64 (.f 2 (.v 1) (.c 31) (.c 0)) (.b .psub .i64 (.c 1) (.f 2 (.v 2) (.c 31) (.c 0))))
  (.br (.b .eq .i64 (.b .andNot .i32 (.v 1) (.v 2)) (.w .i32 (.b .padd .i64 (.b .pmul .i64 (.c 2) (.b .padd .i64 (.b .pmul .i64 (.c 2) (.b .padd .i64 (.b .pmul .i64 (.c 2) (.b .padd .i64 (.b .pmul .i64 (.c 2) (.b .padd .i64 (.b .pmul .i64 (.c 2) (.b .padd .i64 (.b .pmul .i64 (.c 2) (.b .padd .i64 (.b .pmul .i64 (.c 2) (.b .padd .i64 (.b .pmul .i64 (.c 2) (.b .padd .i64 (.b .pmul .i64 (.c 2) (.b .padd .i64 (.b .pmul .i64 (.c 2) (.b .padd .i64 (.b .pmul .i64 (.c 2) (.b .padd .i64 (.b .pmul .i64 (.c 2) (.b .padd .i64 (.b .pmul .i64 (.c 2) (.b .padd .i64 (.b .pmul .i64 (.c 2) (.b .padd .i64 (.b .pmul .i64 (.c 2) (.b .padd .i64 (.b .pmul .i64 (.c 2) (.b .padd .i64 (.b .pmul .i64 (.c 2) (.b .padd .i64 (.b .pmul .i64 (.c 2) (.b .padd .i64 (.b .pmul .i64 (.c 2) (.b .padd .i64 (.b .pmul .i64 (.c 2) (.b .padd .i64 (.b .pmul .i64 (.c 2) (.b .padd .i64 (.b .pmul .i64 (.c 2) (.b .padd .i64 (.b .pmul .i64 (.c 2) (.b .padd .i64 (.b .pmul .i64 (.c 2) (.b .padd .i64 (.b .pmul .i64 (.c 2) (.b .padd .i64 (.b .pmul .i64 (.c 2) (.b .padd .i64 (.b .pmul .i64 (.c 2) (.b .padd .i64 (.b .pmul .i64 (.c 2) (.b .padd .i64 (.b .pmul .i64 (.c 2) (.b .padd .i64 (.b .pmul .i64 (.c 2) (.b .padd .i64 (.b .pmul .i64 (.c 2) (.cl 1032 0 1)) (.cl 1031 0 1))) (.cl 1030 0 1))) (.cl 1029 0 1))) (.cl 1028 0 1))) (.cl 1027 0 1))) (.cl 1026 0 1))) (.cl 1025 0 1))) (.cl 1024 0 1))) (.cl 1023 0 1))) (.cl 1022 0 1))) (.cl 1021 0 1))) (.cl 1020 0 1))) (.cl 1019 0 1))) (.cl 1018 0 1))) (.cl 1017 0 1))) (.cl 1016 0 1))) (.cl 1015 0 1))) (.cl 1014 0 1))) (.cl 1013 0 1))) (.cl 1012 0 1))) (.cl 1011 0 1))) (.cl 1010 0 1))) (.cl 1009 0 1))) (.cl 1008 0 1))) (.cl 1007 0 1))) (.cl 1006 0 1))) (.cl 1005 0 1))) (.cl 1004 0 1))) (.cl 1003 0 1))) (.cl 1002 0 1))) (.cl 1001 0 1))))
  (.br (.b .eq .i64 (.w .i64 (.f 13 (.v 3) (.c 7) (.c 0))) (.c 1))
  (.leaf [(.b .eq .i64 (.w .i64 (.b .padd .i64 (.w .i64 (.f 13 (.v 3) (.c 21) (.c 0))) (.c 3))) (.c 5))])
  (.leaf [(.c 0)]))
  (.leaf [(.c 0)]))))))))))))))))))))))))))))))))))
  (.new 1001 (.b .pmul .i64 (.f 2 (.v 1) (.c 0) (.c 0)) (.b .psub .i64 (.c 1) (.f 2 (.v 2) (.c 0) (.c 0))))
  (.new 1002 (.b .pmul .i64 (.f 2 (.v 1) (.c 1) (.c 0)) (.b .psub .i64 (.c 1) (.f 2 (.v 2) (.c 1) (.c 0))))
  (.new 1003 (.b .pmul .i64 (.f 2 (.v 1) (.c 2) (.c 0)) (.b .psub .i64 (.c 1) (.f 2 (.v 2) (.c 2) (.c 0))))
  (.new 1004 (.b .pmul .i64 (.f 2 (.v 1) (.c 3) (.c 0)) (.b .psub .i64 (.c 1) (.f 2 (.v 2) (.c 3) (.c 0))))
  (.new 1005 (.b .pmul .i64 (.f 2 (.v 1) (.c 4) (.c 0)) (.b .psub .i64 (.c 1) (.f 2 (.v 2) (.c 4) (.c 0))))
  (.new 1006 (.b .pmul .i64 (.f 2 (.v 1) (.c 5) (.c 0)) (.b .psub .i64 (.c 1) (.f 2 (.v 2) (.c 5) (.c 0))))
  (.new 1007 (.b .pmul .i64 (.f 2 (.v 1) (.c 6) (.c 0)) (.b .psub .i64 (.c 1) (.f 2 (.v 2) (.c 6) (.c 0))))
  (.new 1008 (.b .pmul .i64 (.f 2 (.v 1) (.c 7) (.c 0)) (.b .psub .i64 (.c 1) (.f 2 (.v 2) (.c 7) (.c 0))))
  (.new 1009 (.b .pmul .i64 (.f 2 (.v 1) (.c 8) (.c 0)) (.b .psub .i64 (.c 1) (.f 2 (.v 2) (.c 8) (.c 0))))
  (.new 1010 (.b .pmul .i64 (.f 2 (.v 1) (.c 9) (.c 0)) (.b .psub .i64 (.c 1) (.f 2 (.v 2) (.c 9) (.c 0))))
  (.new 1011 (.b .pmul .i64 (.f 2 (.v 1) (.c 10) (.c 0)) (.b .psub .i64 (.c 1) (.f 2 (.v 2) (.c 10) (.c 0))))
  (.new 1012 (.b .pmul .i64 (.f 2 (.v 1) (.c 11) (.c 0)) (.b .psub .i64 (.c 1) (.f 2 (.v 2) (.c 11) (.c 0))))
  (.new 1013 (.b .pmul .i64 (.f 2 (.v 1) (.c 12) (.c 0)) (.b .psub .i64 (.c 1) (.f 2 (.v 2) (.c 12) (.c 0))))
  (.new 1014 (.b .pmul .i64 (.f 2 (.v 1) (.c 13) (.c 0)) (.b .psub .i64 (.c 1) (.f 2 (.v 2) (.c 13) (.c 0))))
  (.new 1015 (.b .pmul .i64 (.f 2 (.v 1) (.c 14) (.c 0)) (.b .psub .i64 (.c 1) (.f 2 (.v 2) (.c 14) (.c 0))))
  (.new 1016 (.b .pmul .i64 (.f 2 (.v 1) (.c 15) (.c 0)) (.b .psub .i64 (.c 1) (.f 2 (.v 2) (.c 15) (.c 0))))
  (.new 1017 (.b .pmul .i64 (.f 2 (.v 1) (.c 16) (.c 0)) (.b .psub .i64 (.c 1) (.f 2 (.v 2) (.c 16) (.c 0))))
  (.new 1018 (.b .pmul .i64 (.f 2 (.v 1) (.c 17) (.c 0)) (.b .psub .i64 (.c 1) (.f 2 (.v 2) (.c 17) (.c 0))))
  (.new 1019 (.b .pmul .i64 (.f 2 (.v 1) (.c 18) (.c 0)) (.b .psub .i64 (.c 1) (.f 2 (.v 2) (.c 18) (.c 0))))
  (.new 1020 (.b .pmul .i64 (.f 2 (.v 1) (.c 19) (.c 0)) (.b .psub .i64 (.c 1) (.f 2 (.v 2) (.c 19) (.c 0))))
  (.new 1021 (.b .pmul .i64 (.f 2 (.v 1) (.c 20) (.c 0)) (.b .psub .i64 (.c 1) (.f 2 (.v 2) (.c 20) (.c 0))))
  (.new 1022 (.b .pmul .i64 (.f 2 (.v 1) (.c 21) (.c 0)) (.b .psub .i64 (.c 1) (.f 2 (.v 2) (.c 21) (.c 0))))
  (.new 1023 (.b .pmul .i64 (.f 2 (.v 1) (.c 22) (.c 0)) (.b .psub .i64 (.c 1) (.f 2 (.v 2) (.c 22) (.c 0))))
  (.new 1024 (.b .pmul .i64 (.f 2 (.v 1) (.c 23) (.c 0)) (.b .psub .i64 (.c 1) (.f 2 (.v 2) (.c 23) (.c 0))))
  (.new 1025 (.b .pmul .i64 (.f 2 (.v 1) (.c 24) (.c 0)) (.b .psub .i64 (.c 1) (.f 2 (.v 2) (.c 24) (.c 0))))
  (.new 1026 (.b .pmul .i64 (.f 2 (.v 1) (.c 25) (.c 0)) (.b .psub .i64 (.c 1) (.f 2 (.v 2) (.c 25) (.c 0))))
  (.new 1027 (.b .pmul .i64 (.f 2 (.v 1) (.c 26) (.c 0)) (.b .psub .i64 (.c 1) (.f 2 (.v 2) (.c 26) (.c 0))))
  (.new 1028 (.b .pmul .i64 (.f 2 (.v 1) (.c 27) (.c 0)) (.b .psub .i64 (.c 1) (.f 2 (.v 2) (.c 27) (.c 0))))
  (.new 1029 (.b .pmul .i64 (.f 2 (.v 1) (.c 28) (.c 0)) (.b .psub .i64 (.c 1) (.f 2 (.v 2) (.c 28) (.c 0))))
  (.new 1030 (.b .pmul .i64 (.f 2 (.v 1) (.c 29) (.c 0)) (.b .psub .i64 (.c 1) (.f 2 (.v 2) (.c 29) (.c 0))))
  (.new 1031 (.b .pmul .i64 (.f 2 (.v 1) (.c 30) (.c 0)) (.b .psub .i64 (.c 1) (.f 2 (.v 2) (.c 30) (.c 0))))
  (.new 1032 (.b .pmul .i64 (.f 2 (.v 1) (.c 31) (.c 0)) (.b .psub .i64 (.c 1) (.f 2 (.v 2) (.c 31) (.c 0))))
  (.br (.b .eq .i64 (.b .andNot .i32 (.v 1) (.v 2)) (.w .i32 (.b .padd .i64 (.b .pmul .i64 (.c 2) (.b .padd .i64 (.b .pmul .i64 (.c 2) (.b .padd .i64 (.b .pmul .i64 (.c 2) (.b .padd .i64 (.b .pmul .i64 (.c 2) (.b .padd .i64 (.b .pmul .i64 (.c 2) (.b .padd .i64 (.b .pmul .i64 (.c 2) (.b .padd .i64 (.b .pmul .i64 (.c 2) (.b .padd .i64 (.b .pmul .i64 (.c 2) (.b .padd .i64 (.b .pmul .i64 (.c 2) (.b .padd .i64 (.b .pmul .i64 (.c 2) (.b .padd .i64 (.b .pmul .i64 (.c 2) (.b .padd .i64 (.b .pmul .i64 (.c 2) (.b .padd .i64 (.b .pmul .i64 (.c 2) (.b .padd .i64 (.b .pmul .i64 (.c 2) (.b .padd .i64 (.b .pmul .i64 (.c 2) (.b .padd .i64 (.b .pmul .i64 (.c 2) (.b .padd .i64 (.b .pmul .i64 (.c 2) (.b .padd .i64 (.b .pmul .i64 (.c 2) (.b .padd .i64 (.b .pmul .i64 (.c 2) (.b .padd .i64 (.b .pmul .i64 (.c 2) (.b .padd .i64 (.b .pmul .i64 (.c 2) (.b .padd .i64 (.b .pmul .i64 (.c 2) (.b .padd .i64 (.b .pmul .i64 (.c 2) (.b .padd .i64 (.b .pmul .i64 (.c 2) (.b .padd .i64 (.b .pmul .i64 (.c 2) (.b .padd .i64 (.b .pmul .i64 (.c 2) (.b .padd .i64 (.b .pmul .i64 (.c 2) (.b .padd .i64 (.b .pmul .i64 (.c 2) (.b .padd .i64 (.b .pmul .i64 (.c 2) (.b .padd .i64 (.b .pmul .i64 (.c 2) (.b .padd .i64 (.b .pmul .i64 (.c 2) (.cl 1032 0 1)) (.cl 1031 0 1))) (.cl 1030 0 1))) (.cl 1029 0 1))) (.cl 1028 0 1))) (.cl 1027 0 1))) (.cl 1026 0 1))) (.cl 1025 0 1))) (.cl 1024 0 1))) (.cl 1023 0 1))) (.cl 1022 0 1))) (.cl 1021 0 1))) (.cl 1020 0 1))) (.cl 1019 0 1))) (.cl 1018 0 1))) (.cl 1017 0 1))) (.cl 1016 0 1))) (.cl 1015 0 1))) (.cl 1014 0 1))) (.cl 1013 0 1))) (.cl 1012 0 1))) (.cl 1011 0 1))) (.cl 1010 0 1))) (.cl 1009 0 1))) (.cl 1008 0 1))) (.cl 1007 0 1))) (.cl 1006 0 1))) (.cl 1005 0 1))) (.cl 1004 0 1))) (.cl 1003 0 1))) (.cl 1002 0 1))) (.cl 1001 0 1))))
  (.br (.b .eq .i64 (.w .i64 (.f 13 (.v 3) (.c 7) (.c 0))) (.c 1))
  (.leaf [(.b .eq .i64 (.w .i64 (.b .padd .i64 (.w .i64 (.f 13 (.v 3) (.c 21) (.c 0))) (.c 3))) (.c 5))])
  (.leaf [(.c 0)]))
  (.leaf [(.c 0)])))))))))))))))))))))))))))))))))))

def P (a0 a1 a2 a3 : Int) : Prop :=
 (((bool01 (a2 == 0)) ≠ 0 →
  ∀ y1001 : Int, y1001 = ((bitZ a1 0) * (1 - (bitZ a2 0))) → (0 ≤ y1001 ∧ y1001 ≤ 1) →
  ∀ y1002 : Int, y1002 = ((bitZ a1 1) * (1 - (bitZ a2 1))) → (0 ≤ y1002 ∧ y1002 ≤ 1) →
  ∀ y1003 : Int, y1003 = ((bitZ a1 2) * (1 - (bitZ a2 2))) → (0 ≤ y1003 ∧ y1003 ≤ 1) →
  ∀ y1004 : Int, y1004 = ((bitZ a1 3) * (1 - (bitZ a2 3))) → (0 ≤ y1004 ∧ y1004 ≤ 1) →
  ∀ y1005 : Int, y1005 = ((bitZ a1 4) * (1 - (bitZ a2 4))) → (0 ≤ y1005 ∧ y1005 ≤ 1) →
  ∀ y1006 : Int, y1006 = ((bitZ a1 5) * (1 - (bitZ a2 5))) → (0 ≤ y1006 ∧ y1006 ≤ 1) →
  ∀ y1007 : Int, y1007 = ((bitZ a1 6) * (1 - (bitZ a2 6))) → (0 ≤ y1007 ∧ y1007 ≤ 1) →
  ∀ y1008 : Int, y1008 = ((bitZ a1 7) * (1 - (bitZ a2 7))) → (0 ≤ y1008 ∧ y1008 ≤ 1) →
  ∀ y1009 : Int, y1009 = ((bitZ a1 8) * (1 - (bitZ a2 8))) → (0 ≤ y1009 ∧ y1009 ≤ 1) →
  ∀ y1010 : Int, y1010 = ((bitZ a1 9) * (1 - (bitZ a2 9))) → (0 ≤ y1010 ∧ y1010 ≤ 1) →
  ∀ y1011 : Int, y1011 = ((bitZ a1 10) * (1 - (bitZ a2 10))) → (0 ≤ y1011 ∧ y1011 ≤ 1) →
  ∀ y1012 : Int, y1012 = ((bitZ a1 11) * (1 - (bitZ a2 11))) → (0 ≤ y1012 ∧ y1012 ≤ 1) →
  ∀ y1013 : Int, y1013 = ((bitZ a1 12) * (1 - (bitZ a2 12))) → (0 ≤ y1013 ∧ y1013 ≤ 1) →
  ∀ y1014 : Int, y1014 = ((bitZ a1 13) * (1 - (bitZ a2 13))) → (0 ≤ y1014 ∧ y1014 ≤ 1) →
  ∀ y1015 : Int, y1015 = ((bitZ a1 14) * (1 - (bitZ a2 14))) → (0 ≤ y1015 ∧ y1015 ≤ 1) →
  ∀ y1016 : Int, y1016 = ((bitZ a1 15) * (1 - (bitZ a2 15))) → (0 ≤ y1016 ∧ y1016 ≤ 1) →
  ∀ y1017 : Int, y1017 = ((bitZ a1 16) * (1 - (bitZ a2 16))) → (0 ≤ y1017 ∧ y1017 ≤ 1) →
  ∀ y1018 : Int, y1018 = ((bitZ a1 17) * (1 - (bitZ a2 17))) → (0 ≤ y1018 ∧ y1018 ≤ 1) →
  ∀ y1019 : Int, y1019 = ((bitZ a1 18) * (1 - (bitZ a2 18))) → (0 ≤ y1019 ∧ y1019 ≤ 1) →
  ∀ y1020 : Int, y1020 = ((bitZ a1 19) * (1 - (bitZ a2 19))) → (0 ≤ y1020 ∧ y1020 ≤ 1) →
  ∀ y1021 : Int, y1021 = ((bitZ a1 20) * (1 - (bitZ a2 20))) → (0 ≤ y1021 ∧ y1021 ≤ 1) →
  ∀ y1022 : Int, y1022 = ((bitZ a1 21) * (1 - (bitZ a2 21))) → (0 ≤ y1022 ∧ y1022 ≤ 1) →
  ∀ y1023 : Int, y1023 = ((bitZ a1 22) * (1 - (bitZ a2 22))) → (0 ≤ y1023 ∧ y1023 ≤ 1) →
  ∀ y1024 : Int, y1024 = ((bitZ a1 23) * (1 - (bitZ a2 23))) → (0 ≤ y1024 ∧ y1024 ≤ 1) →
  ∀ y1025 : Int, y1025 = ((bitZ a1 24) * (1 - (bitZ a2 24))) → (0 ≤ y1025 ∧ y1025 ≤ 1) →
  ∀ y1026 : Int, y1026 = ((bitZ a1 25) * (1 - (bitZ a2 25))) → (0 ≤ y1026 ∧ y1026 ≤ 1) →
  ∀ y1027 : Int, y1027 = ((bitZ a1 26) * (1 - (bitZ a2 26))) → (0 ≤ y1027 ∧ y1027 ≤ 1) →
  ∀ y1028 : Int, y1028 = ((bitZ a1 27) * (1 - (bitZ a2 27))) → (0 ≤ y1028 ∧ y1028 ≤ 1) →
  ∀ y1029 : Int, y1029 = ((bitZ a1 28) * (1 - (bitZ a2 28))) → (0 ≤ y1029 ∧ y1029 ≤ 1) →
  ∀ y1030 : Int, y1030 = ((bitZ a1 29) * (1 - (bitZ a2 29))) → (0 ≤ y1030 ∧ y1030 ≤ 1) →
  ∀ y1031 : Int, y1031 = ((bitZ a1 30) * (1 - (bitZ a2 30))) → (0 ≤ y1031 ∧ y1031 ≤ 1) →
  ∀ y1032 : Int, y1032 = ((bitZ a1 31) * (1 - (bitZ a2 31))) → (0 ≤ y1032 ∧ y1032 ≤ 1) →
  (((bool01 ((bandn .i32 a1 a2) == (IntKind.wrap .i32 ((2 * ((2 * ((2 * ((2 * ((2 * ((2 * ((2 * ((2 * ((2 * ((2 * ((2 * ((2 * ((2 * ((2 * ((2 * ((2 * ((2 * ((2 * ((2 * ((2 * ((2 * ((2 * ((2 * ((2 * ((2 * ((2 * ((2 * ((2 * ((2 * ((2 * ((2 * y1032) + y1031)) + y1030)) + y1029)) + y1028)) + y1027)) + y1026)) + y1025)) + y1024)) + y1023)) + y1022)) + y1021)) + y1020)) + y1019)) + y1018)) + y1017)) + y1016)) + y1015)) + y1014)) + y1013)) + y1012)) + y1011)) + y1010)) + y1009)) + y1008)) + y1007)) + y1006)) + y1005)) + y1004)) + y1003)) + y1002)) + y1001)))) ≠ 0 →
   (((bool01 ((IntKind.wrap .i64 (rdZ a3 7)) == 1)) ≠ 0 →
    ((bool01 ((IntKind.wrap .i64 ((IntKind.wrap .i64 (rdZ a3 21)) + 3)) == 5)) : Int) ≠ 0) ∧ ((bool01 ((IntKind.wrap .i64 (rdZ a3 7)) == 1)) = 0 →
    (0 : Int) ≠ 0))) ∧ ((bool01 ((bandn .i32 a1 a2) == (IntKind.wrap .i32 ((2 * ((2 * ((2 * ((2 * ((2 * ((2 * ((2 * ((2 * ((2 * ((2 * ((2 * ((2 * ((2 * ((2 * ((2 * ((2 * ((2 * ((2 * ((2 * ((2 * ((2 * ((2 * ((2 * ((2 * ((2 * ((2 * ((2 * ((2 * ((2 * ((2 * ((2 * y1032) + y1031)) + y1030)) + y1029)) + y1028)) + y1027)) + y1026)) + y1025)) + y1024)) + y1023)) + y1022)) + y1021)) + y1020)) + y1019)) + y1018)) + y1017)) + y1016)) + y1015)) + y1014)) + y1013)) + y1012)) + y1011)) + y1010)) + y1009)) + y1008)) + y1007)) + y1006)) + y1005)) + y1004)) + y1003)) + y1002)) + y1001)))) = 0 →
   (0 : Int) ≠ 0))) ∧ ((bool01 (a2 == 0)) = 0 →
  ∀ y1001 : Int, y1001 = ((bitZ a1 0) * (1 - (bitZ a2 0))) → (0 ≤ y1001 ∧ y1001 ≤ 1) →
  ∀ y1002 : Int, y1002 = ((bitZ a1 1) * (1 - (bitZ a2 1))) → (0 ≤ y1002 ∧ y1002 ≤ 1) →
  ∀ y1003 : Int, y1003 = ((bitZ a1 2) * (1 - (bitZ a2 2))) → (0 ≤ y1003 ∧ y1003 ≤ 1) →
  ∀ y1004 : Int, y1004 = ((bitZ a1 3) * (1 - (bitZ a2 3))) → (0 ≤ y1004 ∧ y1004 ≤ 1) →
  ∀ y1005 : Int, y1005 = ((bitZ a1 4) * (1 - (bitZ a2 4))) → (0 ≤ y1005 ∧ y1005 ≤ 1) →
  ∀ y1006 : Int, y1006 = ((bitZ a1 5) * (1 - (bitZ a2 5))) → (0 ≤ y1006 ∧ y1006 ≤ 1) →
  ∀ y1007 : Int, y1007 = ((bitZ a1 6) * (1 - (bitZ a2 6))) → (0 ≤ y1007 ∧ y1007 ≤ 1) →
  ∀ y1008 : Int, y1008 = ((bitZ a1 7) * (1 - (bitZ a2 7))) → (0 ≤ y1008 ∧ y1008 ≤ 1) →
  ∀ y1009 : Int, y1009 = ((bitZ a1 8) * (1 - (bitZ a2 8))) → (0 ≤ y1009 ∧ y1009 ≤ 1) →
  ∀ y1010 : Int, y1010 = ((bitZ a1 9) * (1 - (bitZ a2 9))) → (0 ≤ y1010 ∧ y1010 ≤ 1) →
  ∀ y1011 : Int, y1011 = ((bitZ a1 10) * (1 - (bitZ a2 10))) → (0 ≤ y1011 ∧ y1011 ≤ 1) →
  ∀ y1012 : Int, y1012 = ((bitZ a1 11) * (1 - (bitZ a2 11))) → (0 ≤ y1012 ∧ y1012 ≤ 1) →
  ∀ y1013 : Int, y1013 = ((bitZ a1 12) * (1 - (bitZ a2 12))) → (0 ≤ y1013 ∧ y1013 ≤ 1) →
  ∀ y1014 : Int, y1014 = ((bitZ a1 13) * (1 - (bitZ a2 13))) → (0 ≤ y1014 ∧ y1014 ≤ 1) →
  ∀ y1015 : Int, y1015 = ((bitZ a1 14) * (1 - (bitZ a2 14))) → (0 ≤ y1015 ∧ y1015 ≤ 1) →
  ∀ y1016 : Int, y1016 = ((bitZ a1 15) * (1 - (bitZ a2 15))) → (0 ≤ y1016 ∧ y1016 ≤ 1) →
  ∀ y1017 : Int, y1017 = ((bitZ a1 16) * (1 - (bitZ a2 16))) → (0 ≤ y1017 ∧ y1017 ≤ 1) →
  ∀ y1018 : Int, y1018 = ((bitZ a1 17) * (1 - (bitZ a2 17))) → (0 ≤ y1018 ∧ y1018 ≤ 1) →
  ∀ y1019 : Int, y1019 = ((bitZ a1 18) * (1 - (bitZ a2 18))) → (0 ≤ y1019 ∧ y1019 ≤ 1) →
  ∀ y1020 : Int, y1020 = ((bitZ a1 19) * (1 - (bitZ a2 19))) → (0 ≤ y1020 ∧ y1020 ≤ 1) →
  ∀ y1021 : Int, y1021 = ((bitZ a1 20) * (1 - (bitZ a2 20))) → (0 ≤ y1021 ∧ y1021 ≤ 1) →
  ∀ y1022 : Int, y1022 = ((bitZ a1 21) * (1 - (bitZ a2 21))) → (0 ≤ y1022 ∧ y1022 ≤ 1) →
  ∀ y1023 : Int, y1023 = ((bitZ a1 22) * (1 - (bitZ a2 22))) → (0 ≤ y1023 ∧ y1023 ≤ 1) →
  ∀ y1024 : Int, y1024 = ((bitZ a1 23) * (1 - (bitZ a2 23))) → (0 ≤ y1024 ∧ y1024 ≤ 1) →
  ∀ y1025 : Int, y1025 = ((bitZ a1 24) * (1 - (bitZ a2 24))) → (0 ≤ y1025 ∧ y1025 ≤ 1) →
  ∀ y1026 : Int, y1026 = ((bitZ a1 25) * (1 - (bitZ a2 25))) → (0 ≤ y1026 ∧ y1026 ≤ 1) →
  ∀ y1027 : Int, y1027 = ((bitZ a1 26) * (1 - (bitZ a2 26))) → (0 ≤ y1027 ∧ y1027 ≤ 1) →
  ∀ y1028 : Int, y1028 = ((bitZ a1 27) * (1 - (bitZ a2 27))) → (0 ≤ y1028 ∧ y1028 ≤ 1) →
  ∀ y1029 : Int, y1029 = ((bitZ a1 28) * (1 - (bitZ a2 28))) → (0 ≤ y1029 ∧ y1029 ≤ 1) →
  ∀ y1030 : Int, y1030 = ((bitZ a1 29) * (1 - (bitZ a2 29))) → (0 ≤ y1030 ∧ y1030 ≤ 1) →
  ∀ y1031 : Int, y1031 = ((bitZ a1 30) * (1 - (bitZ a2 30))) → (0 ≤ y1031 ∧ y1031 ≤ 1) →
  ∀ y1032 : Int, y1032 = ((bitZ a1 31) * (1 - (bitZ a2 31))) → (0 ≤ y1032 ∧ y1032 ≤ 1) →
  (((bool01 ((bandn .i32 a1 a2) == (IntKind.wrap .i32 ((2 * ((2 * ((2 * ((2 * ((2 * ((2 * ((2 * ((2 * ((2 * ((2 * ((2 * ((2 * ((2 * ((2 * ((2 * ((2 * ((2 * ((2 * ((2 * ((2 * ((2 * ((2 * ((2 * ((2 * ((2 * ((2 * ((2 * ((2 * ((2 * ((2 * ((2 * y1032) + y1031)) + y1030)) + y1029)) + y1028)) + y1027)) + y1026)) + y1025)) + y1024)) + y1023)) + y1022)) + y1021)) + y1020)) + y1019)) + y1018)) + y1017)) + y1016)) + y1015)) + y1014)) + y1013)) + y1012)) + y1011)) + y1010)) + y1009)) + y1008)) + y1007)) + y1006)) + y1005)) + y1004)) + y1003)) + y1002)) + y1001)))) ≠ 0 →
   (((bool01 ((IntKind.wrap .i64 (rdZ a3 7)) == 1)) ≠ 0 →
    ((bool01 ((IntKind.wrap .i64 ((IntKind.wrap .i64 (rdZ a3 21)) + 3)) == 5)) : Int) ≠ 0) ∧ ((bool01 ((IntKind.wrap .i64 (rdZ a3 7)) == 1)) = 0 →
    (0 : Int) ≠ 0))) ∧ ((bool01 ((bandn .i32 a1 a2) == (IntKind.wrap .i32 ((2 * ((2 * ((2 * ((2 * ((2 * ((2 * ((2 * ((2 * ((2 * ((2 * ((2 * ((2 * ((2 * ((2 * ((2 * ((2 * ((2 * ((2 * ((2 * ((2 * ((2 * ((2 * ((2 * ((2 * ((2 * ((2 * ((2 * ((2 * ((2 * ((2 * ((2 * y1032) + y1031)) + y1030)) + y1029)) + y1028)) + y1027)) + y1026)) + y1025)) + y1024)) + y1023)) + y1022)) + y1021)) + y1020)) + y1019)) + y1018)) + y1017)) + y1016)) + y1015)) + y1014)) + y1013)) + y1012)) + y1011)) + y1010)) + y1009)) + y1008)) + y1007)) + y1006)) + y1005)) + y1004)) + y1003)) + y1002)) + y1001)))) = 0 →
   (0 : Int) ≠ 0))))

theorem plain (a0 a1 a2 a3 : Int) (ro : List RO) : TT.hdP (cxOf 2 [(8, 8), (-2147483648, 2147483647), (-2147483648, 2147483647)] [⟨[.int .i64], .v 3, .c 43, .c 43, some 0⟩]) isOne tree (envR [a0, a1, a2, a3] ro) = P a0 a1 a2 a3 := by kernel_rfl

theorem holds (a0 a1 a2 : Int) (l0 : 8 ≤ a0) (u0 : a0 ≤ 8) (l1 : -2147483648 ≤ a1) (u1 : a1 ≤ 2147483647) (l2 : -2147483648 ≤ a2) (u2 : a2 ≤ 2147483647) : P a0 a1 a2 (LZ tab0) := by
  have h5 : (IntKind.wrap .i64 ((IntKind.wrap .i64 (rdZ (LZ tab0) 21)) + 3)) = 5 := by rw [rdZ_LZ]; decide
  have r1 : IntKind.wrap .i64 (rdZ (LZ tab0) (7)) = 1 := by rw [rdZ_LZ]; decide
  have e := bic_each a1 a2
  simp only [eachN] at e
  clear l0 u0
  unfold P
  first
    | (refine ⟨fun _ => ?_, fun _ => ?_⟩ <;> intros <;> subst_vars <;> rw [e] <;> simp [h5, r1, bool01]; done)
    | (intros; subst_vars; rw [e]; simp [h5, r1, bool01]; done)

theorem ran : TT.beq (projL pjB (runA [(8, 8), (-2147483648, 2147483647), (-2147483648, 2147483647)] 3 [.int .i64 (.c 8), .int .i32 (.v 1), .int .i32 (.v 2)] ⟨[], []⟩)) tree = true := by kernel_rfl
theorem fineT : (TT.fine (cxOf 2 [(8, 8), (-2147483648, 2147483647), (-2147483648, 2147483647)] [⟨[.int .i64], .v 3, .c 43, .c 43, some 0⟩]) 1000 [] tree && (cxOf 2 [(8, 8), (-2147483648, 2147483647), (-2147483648, 2147483647)] [⟨[.int .i64], .v 3, .c 43, .c 43, some 0⟩]).okB 1000 && SV.vbL 1000 [.int .i64 (.c 8), .int .i32 (.v 1), .int .i32 (.v 2)] && TT.tidy (cxOf 2 [(8, 8), (-2147483648, 2147483647), (-2147483648, 2147483647)] [⟨[.int .i64], .v 3, .c 43, .c 43, some 0⟩]) [] tree) = true := by kernel_rfl
theorem walk (a0 a1 a2 : Int) (w0 : (Lit.int .i64 a0).wf = true) (w1 : (Lit.int .i32 a1).wf = true) (w2 : (Lit.int .i32 a2).wf = true) (w : World) (t0 : Lib.TabIs Tryz.prog w "astrolabe/ops.costs" .i64 tab0) (hc : 8 ≤ a0 ∧ a0 ≤ 8) :
    Calls Tryz.prog 3 #[.int .i64 a0, .int .i32 a1, .int .i32 a2] w fun e w' => e = .returned (.bool true) ∧ Below w.heap.size w w' :=
  lawT_of (runA_ok [(8, 8), (-2147483648, 2147483647), (-2147483648, 2147483647)]) (ρ := envR [a0, a1, a2, LZ tab0] [tabRo 0 .i64 tab0]) (envR_ok (cx := cxOf 2 [(8, 8), (-2147483648, 2147483647), (-2147483648, 2147483647)] [⟨[.int .i64], .v 3, .c 43, .c 43, some 0⟩]) rfl rfl (bnd_cons hc (bnd_cons (wf_bd w1) (bnd_cons (wf_bd w2) (bnd_nil _)))) ⟨⟨rfl, rfl, rfl, rfl, (fun h => by cases h), fun g h => by cases h; rfl⟩, trivial⟩) (f := 3) (args := [.int .i64 (.c 8), .int .i32 (.v 1), .int .i32 (.v 2)]) (t := tree) ran fineT
    (by rw [plain]; exact holds a0 a1 a2 hc.1 hc.2 (wf_bd w1).1 (wf_bd w1).2 (wf_bd w2).1 (wf_bd w2).2) (roOk_of ⟨tabRo_at t0 tabG0 tabW0, trivial⟩) (by obtain rfl : a0 = 8 := (by omega); rfl)

end c8

namespace c9
def tree : TT (List E) :=
(.br (.b .eq .i64 (.v 2) (.c 0))
  (.br (.b .eq .i64 (.w .i64 (.f 13 (.v 3) (.c 8) (.c 0))) (.c 1))
  (.leaf [(.b .eq .i64 (.w .i64 (.b .padd .i64 (.w .i64 (.f 13 (.v 3) (.c 21) (.c 0))) (.c 3))) (.c 5))])
  (.leaf [(.c 0)]))
  (.br (.b .eq .i64 (.w .i64 (.f 13 (.v 3) (.c 8) (.c 0))) (.c 1))
  (.leaf [(.b .eq .i64 (.w .i64 (.b .padd .i64 (.w .i64 (.f 13 (.v 3) (.c 21) (.c 0))) (.c 3))) (.c 5))])
  (.leaf [(.c 0)])))

def P (a0 a1 a2 a3 : Int) : Prop :=
 (((bool01 (a2 == 0)) ≠ 0 →
  (((bool01 ((IntKind.wrap .i64 (rdZ a3 8)) == 1)) ≠ 0 →
   ((bool01 ((IntKind.wrap .i64 ((IntKind.wrap .i64 (rdZ a3 21)) + 3)) == 5)) : Int) ≠ 0) ∧ ((bool01 ((IntKind.wrap .i64 (rdZ a3 8)) == 1)) = 0 →
   (0 : Int) ≠ 0))) ∧ ((bool01 (a2 == 0)) = 0 →
  (((bool01 ((IntKind.wrap .i64 (rdZ a3 8)) == 1)) ≠ 0 →
   ((bool01 ((IntKind.wrap .i64 ((IntKind.wrap .i64 (rdZ a3 21)) + 3)) == 5)) : Int) ≠ 0) ∧ ((bool01 ((IntKind.wrap .i64 (rdZ a3 8)) == 1)) = 0 →
   (0 : Int) ≠ 0))))

theorem plain (a0 a1 a2 a3 : Int) (ro : List RO) : TT.hdP (cxOf 2 [(9, 9), (-2147483648, 2147483647), (-2147483648, 2147483647)] [⟨[.int .i64], .v 3, .c 43, .c 43, some 0⟩]) isOne tree (envR [a0, a1, a2, a3] ro) = P a0 a1 a2 a3 := by kernel_rfl

theorem holds (a0 a1 a2 : Int) (l0 : 9 ≤ a0) (u0 : a0 ≤ 9) (l1 : -2147483648 ≤ a1) (u1 : a1 ≤ 2147483647) (l2 : -2147483648 ≤ a2) (u2 : a2 ≤ 2147483647) : P a0 a1 a2 (LZ tab0) := by
  have h5 : (IntKind.wrap .i64 ((IntKind.wrap .i64 (rdZ (LZ tab0) 21)) + 3)) = 5 := by rw [rdZ_LZ]; decide
  have r1 : 9 < 1 ∨ 43 < 9 ∨ IntKind.wrap .i64 (rdZ (LZ tab0) (8)) = 1 := by
    first
      | exact .inl (by decide)
      | exact .inr (.inl (by decide))
      | exact .inr (.inr (by rw [rdZ_LZ]; decide))
  unfold P
  first
    | (rcases r1 with r1 | r1 | r1 <;> simp [h5, r1, bool01]; done)
    | (simp [h5, bool01]; done)
    | (simp [h5] at *; simp_all [bool01]; done)

theorem ran : TT.beq (projL pjB (runA [(9, 9), (-2147483648, 2147483647), (-2147483648, 2147483647)] 3 [.int .i64 (.c 9), .int .i32 (.v 1), .int .i32 (.v 2)] ⟨[], []⟩)) tree = true := by kernel_rfl
theorem fineT : (TT.fine (cxOf 2 [(9, 9), (-2147483648, 2147483647), (-2147483648, 2147483647)] [⟨[.int .i64], .v 3, .c 43, .c 43, some 0⟩]) 1000 [] tree && (cxOf 2 [(9, 9), (-2147483648, 2147483647), (-2147483648, 2147483647)] [⟨[.int .i64], .v 3, .c 43, .c 43, some 0⟩]).okB 1000 && SV.vbL 1000 [.int .i64 (.c 9), .int .i32 (.v 1), .int .i32 (.v 2)] && TT.tidy (cxOf 2 [(9, 9), (-2147483648, 2147483647), (-2147483648, 2147483647)] [⟨[.int .i64], .v 3, .c 43, .c 43, some 0⟩]) [] tree) = true := by kernel_rfl
theorem walk (a0 a1 a2 : Int) (w0 : (Lit.int .i64 a0).wf = true) (w1 : (Lit.int .i32 a1).wf = true) (w2 : (Lit.int .i32 a2).wf = true) (w : World) (t0 : Lib.TabIs Tryz.prog w "astrolabe/ops.costs" .i64 tab0) (hc : 9 ≤ a0 ∧ a0 ≤ 9) :
    Calls Tryz.prog 3 #[.int .i64 a0, .int .i32 a1, .int .i32 a2] w fun e w' => e = .returned (.bool true) ∧ Below w.heap.size w w' :=
  lawT_of (runA_ok [(9, 9), (-2147483648, 2147483647), (-2147483648, 2147483647)]) (ρ := envR [a0, a1, a2, LZ tab0] [tabRo 0 .i64 tab0]) (envR_ok (cx := cxOf 2 [(9, 9), (-2147483648, 2147483647), (-2147483648, 2147483647)] [⟨[.int .i64], .v 3, .c 43, .c 43, some 0⟩]) rfl rfl (bnd_cons hc (bnd_cons (wf_bd w1) (bnd_cons (wf_bd w2) (bnd_nil _)))) ⟨⟨rfl, rfl, rfl, rfl, (fun h => by cases h), fun g h => by cases h; rfl⟩, trivial⟩) (f := 3) (args := [.int .i64 (.c 9), .int .i32 (.v 1), .int .i32 (.v 2)]) (t := tree) ran fineT
    (by rw [plain]; exact holds a0 a1 a2 hc.1 hc.2 (wf_bd w1).1 (wf_bd w1).2 (wf_bd w2).1 (wf_bd w2).2) (roOk_of ⟨tabRo_at t0 tabG0 tabW0, trivial⟩) (by obtain rfl : a0 = 9 := (by omega); rfl)

end c9

namespace c10
def tree : TT (List E) :=
(.br (.b .eq .i64 (.v 2) (.c 0))
  (.br (.b .eq .i64 (.w .i64 (.f 13 (.v 3) (.c 9) (.c 0))) (.c 1))
  (.leaf [(.b .eq .i64 (.w .i64 (.b .padd .i64 (.w .i64 (.f 13 (.v 3) (.c 21) (.c 0))) (.c 3))) (.c 5))])
  (.leaf [(.c 0)]))
  (.br (.b .eq .i64 (.w .i64 (.f 13 (.v 3) (.c 9) (.c 0))) (.c 1))
  (.leaf [(.b .eq .i64 (.w .i64 (.b .padd .i64 (.w .i64 (.f 13 (.v 3) (.c 21) (.c 0))) (.c 3))) (.c 5))])
  (.leaf [(.c 0)])))

def P (a0 a1 a2 a3 : Int) : Prop :=
 (((bool01 (a2 == 0)) ≠ 0 →
  (((bool01 ((IntKind.wrap .i64 (rdZ a3 9)) == 1)) ≠ 0 →
   ((bool01 ((IntKind.wrap .i64 ((IntKind.wrap .i64 (rdZ a3 21)) + 3)) == 5)) : Int) ≠ 0) ∧ ((bool01 ((IntKind.wrap .i64 (rdZ a3 9)) == 1)) = 0 →
   (0 : Int) ≠ 0))) ∧ ((bool01 (a2 == 0)) = 0 →
  (((bool01 ((IntKind.wrap .i64 (rdZ a3 9)) == 1)) ≠ 0 →
   ((bool01 ((IntKind.wrap .i64 ((IntKind.wrap .i64 (rdZ a3 21)) + 3)) == 5)) : Int) ≠ 0) ∧ ((bool01 ((IntKind.wrap .i64 (rdZ a3 9)) == 1)) = 0 →
   (0 : Int) ≠ 0))))

theorem plain (a0 a1 a2 a3 : Int) (ro : List RO) : TT.hdP (cxOf 2 [(10, 10), (-2147483648, 2147483647), (-2147483648, 2147483647)] [⟨[.int .i64], .v 3, .c 43, .c 43, some 0⟩]) isOne tree (envR [a0, a1, a2, a3] ro) = P a0 a1 a2 a3 := by kernel_rfl

theorem holds (a0 a1 a2 : Int) (l0 : 10 ≤ a0) (u0 : a0 ≤ 10) (l1 : -2147483648 ≤ a1) (u1 : a1 ≤ 2147483647) (l2 : -2147483648 ≤ a2) (u2 : a2 ≤ 2147483647) : P a0 a1 a2 (LZ tab0) := by
  have h5 : (IntKind.wrap .i64 ((IntKind.wrap .i64 (rdZ (LZ tab0) 21)) + 3)) = 5 := by rw [rdZ_LZ]; decide
  have r1 : 10 < 1 ∨ 43 < 10 ∨ IntKind.wrap .i64 (rdZ (LZ tab0) (9)) = 1 := by
    first
      | exact .inl (by decide)
      | exact .inr (.inl (by decide))
      | exact .inr (.inr (by rw [rdZ_LZ]; decide))
  unfold P
  first
    | (rcases r1 with r1 | r1 | r1 <;> simp [h5, r1, bool01]; done)
    | (simp [h5, bool01]; done)
    | (simp [h5] at *; simp_all [bool01]; done)

theorem ran : TT.beq (projL pjB (runA [(10, 10), (-2147483648, 2147483647), (-2147483648, 2147483647)] 3 [.int .i64 (.c 10), .int .i32 (.v 1), .int .i32 (.v 2)] ⟨[], []⟩)) tree = true := by kernel_rfl
theorem fineT : (TT.fine (cxOf 2 [(10, 10), (-2147483648, 2147483647), (-2147483648, 2147483647)] [⟨[.int .i64], .v 3, .c 43, .c 43, some 0⟩]) 1000 [] tree && (cxOf 2 [(10, 10), (-2147483648, 2147483647), (-2147483648, 2147483647)] [⟨[.int .i64], .v 3, .c 43, .c 43, some 0⟩]).okB 1000 && SV.vbL 1000 [.int .i64 (.c 10), .int .i32 (.v 1), .int .i32 (.v 2)] && TT.tidy (cxOf 2 [(10, 10), (-2147483648, 2147483647), (-2147483648, 2147483647)] [⟨[.int .i64], .v 3, .c 43, .c 43, some 0⟩]) [] tree) = true := by kernel_rfl
theorem walk (a0 a1 a2 : Int) (w0 : (Lit.int .i64 a0).wf = true) (w1 : (Lit.int .i32 a1).wf = true) (w2 : (Lit.int .i32 a2).wf = true) (w : World) (t0 : Lib.TabIs Tryz.prog w "astrolabe/ops.costs" .i64 tab0) (hc : 10 ≤ a0 ∧ a0 ≤ 10) :
    Calls Tryz.prog 3 #[.int .i64 a0, .int .i32 a1, .int .i32 a2] w fun e w' => e = .returned (.bool true) ∧ Below w.heap.size w w' :=
  lawT_of (runA_ok [(10, 10), (-2147483648, 2147483647), (-2147483648, 2147483647)]) (ρ := envR [a0, a1, a2, LZ tab0] [tabRo 0 .i64 tab0]) (envR_ok (cx := cxOf 2 [(10, 10), (-2147483648, 2147483647), (-2147483648, 2147483647)] [⟨[.int .i64], .v 3, .c 43, .c 43, some 0⟩]) rfl rfl (bnd_cons hc (bnd_cons (wf_bd w1) (bnd_cons (wf_bd w2) (bnd_nil _)))) ⟨⟨rfl, rfl, rfl, rfl, (fun h => by cases h), fun g h => by cases h; rfl⟩, trivial⟩) (f := 3) (args := [.int .i64 (.c 10), .int .i32 (.v 1), .int .i32 (.v 2)]) (t := tree) ran fineT
    (by rw [plain]; exact holds a0 a1 a2 hc.1 hc.2 (wf_bd w1).1 (wf_bd w1).2 (wf_bd w2).1 (wf_bd w2).2) (roOk_of ⟨tabRo_at t0 tabG0 tabW0, trivial⟩) (by obtain rfl : a0 = 10 := (by omega); rfl)

end c10

namespace c11
def tree : TT (List E) :=
(.br (.b .eq .i64 (.v 2) (.c 0))
  (.br (.b .eq .i64 (.w .i64 (.f 13 (.v 3) (.c 10) (.c 0))) (.c 1))
  (.leaf [(.b .eq .i64 (.w .i64 (.b .padd .i64 (.w .i64 (.f 13 (.v 3) (.c 21) (.c 0))) (.c 3))) (.c 5))])
  (.leaf [(.c 0)]))
  (.br (.b .eq .i64 (.w .i64 (.f 13 (.v 3) (.c 10) (.c 0))) (.c 1))
  (.leaf [(.b .eq .i64 (.w .i64 (.b .padd .i64 (.w .i64 (.f 13 (.v 3) (.c 21) (.c 0))) (.c 3))) (.c 5))])
  (.leaf [(.c 0)])))

def P (a0 a1 a2 a3 : Int) : Prop :=
 (((bool01 (a2 == 0)) ≠ 0 →
  (((bool01 ((IntKind.wrap .i64 (rdZ a3 10)) == 1)) ≠ 0 →
   ((bool01 ((IntKind.wrap .i64 ((IntKind.wrap .i64 (rdZ a3 21)) + 3)) == 5)) : Int) ≠ 0) ∧ ((bool01 ((IntKind.wrap .i64 (rdZ a3 10)) == 1)) = 0 →
   (0 : Int) ≠ 0))) ∧ ((bool01 (a2 == 0)) = 0 →
  (((bool01 ((IntKind.wrap .i64 (rdZ a3 10)) == 1)) ≠ 0 →
   ((bool01 ((IntKind.wrap .i64 ((IntKind.wrap .i64 (rdZ a3 21)) + 3)) == 5)) : Int) ≠ 0) ∧ ((bool01 ((IntKind.wrap .i64 (rdZ a3 10)) == 1)) = 0 →
   (0 : Int) ≠ 0))))

theorem plain (a0 a1 a2 a3 : Int) (ro : List RO) : TT.hdP (cxOf 2 [(11, 11), (-2147483648, 2147483647), (-2147483648, 2147483647)] [⟨[.int .i64], .v 3, .c 43, .c 43, some 0⟩]) isOne tree (envR [a0, a1, a2, a3] ro) = P a0 a1 a2 a3 := by kernel_rfl

theorem holds (a0 a1 a2 : Int) (l0 : 11 ≤ a0) (u0 : a0 ≤ 11) (l1 : -2147483648 ≤ a1) (u1 : a1 ≤ 2147483647) (l2 : -2147483648 ≤ a2) (u2 : a2 ≤ 2147483647) : P a0 a1 a2 (LZ tab0) := by
  have h5 : (IntKind.wrap .i64 ((IntKind.wrap .i64 (rdZ (LZ tab0) 21)) + 3)) = 5 := by rw [rdZ_LZ]; decide
  have r1 : 11 < 1 ∨ 43 < 11 ∨ IntKind.wrap .i64 (rdZ (LZ tab0) (10)) = 1 := by
    first
      | exact .inl (by decide)
      | exact .inr (.inl (by decide))
      | exact .inr (.inr (by rw [rdZ_LZ]; decide))
  unfold P
  first
    | (rcases r1 with r1 | r1 | r1 <;> simp [h5, r1, bool01]; done)
    | (simp [h5, bool01]; done)
    | (simp [h5] at *; simp_all [bool01]; done)

theorem ran : TT.beq (projL pjB (runA [(11, 11), (-2147483648, 2147483647), (-2147483648, 2147483647)] 3 [.int .i64 (.c 11), .int .i32 (.v 1), .int .i32 (.v 2)] ⟨[], []⟩)) tree = true := by kernel_rfl
theorem fineT : (TT.fine (cxOf 2 [(11, 11), (-2147483648, 2147483647), (-2147483648, 2147483647)] [⟨[.int .i64], .v 3, .c 43, .c 43, some 0⟩]) 1000 [] tree && (cxOf 2 [(11, 11), (-2147483648, 2147483647), (-2147483648, 2147483647)] [⟨[.int .i64], .v 3, .c 43, .c 43, some 0⟩]).okB 1000 && SV.vbL 1000 [.int .i64 (.c 11), .int .i32 (.v 1), .int .i32 (.v 2)] && TT.tidy (cxOf 2 [(11, 11), (-2147483648, 2147483647), (-2147483648, 2147483647)] [⟨[.int .i64], .v 3, .c 43, .c 43, some 0⟩]) [] tree) = true := by kernel_rfl
theorem walk (a0 a1 a2 : Int) (w0 : (Lit.int .i64 a0).wf = true) (w1 : (Lit.int .i32 a1).wf = true) (w2 : (Lit.int .i32 a2).wf = true) (w : World) (t0 : Lib.TabIs Tryz.prog w "astrolabe/ops.costs" .i64 tab0) (hc : 11 ≤ a0 ∧ a0 ≤ 11) :
    Calls Tryz.prog 3 #[.int .i64 a0, .int .i32 a1, .int .i32 a2] w fun e w' => e = .returned (.bool true) ∧ Below w.heap.size w w' :=
  lawT_of (runA_ok [(11, 11), (-2147483648, 2147483647), (-2147483648, 2147483647)]) (ρ := envR [a0, a1, a2, LZ tab0] [tabRo 0 .i64 tab0]) (envR_ok (cx := cxOf 2 [(11, 11), (-2147483648, 2147483647), (-2147483648, 2147483647)] [⟨[.int .i64], .v 3, .c 43, .c 43, some 0⟩]) rfl rfl (bnd_cons hc (bnd_cons (wf_bd w1) (bnd_cons (wf_bd w2) (bnd_nil _)))) ⟨⟨rfl, rfl, rfl, rfl, (fun h => by cases h), fun g h => by cases h; rfl⟩, trivial⟩) (f := 3) (args := [.int .i64 (.c 11), .int .i32 (.v 1), .int .i32 (.v 2)]) (t := tree) ran fineT
    (by rw [plain]; exact holds a0 a1 a2 hc.1 hc.2 (wf_bd w1).1 (wf_bd w1).2 (wf_bd w2).1 (wf_bd w2).2) (roOk_of ⟨tabRo_at t0 tabG0 tabW0, trivial⟩) (by obtain rfl : a0 = 11 := (by omega); rfl)

end c11

namespace c12
def tree : TT (List E) :=
(.br (.b .eq .i64 (.v 2) (.c 0))
  (.br (.b .eq .i64 (.w .i64 (.f 13 (.v 3) (.c 11) (.c 0))) (.c 1))
  (.leaf [(.b .eq .i64 (.w .i64 (.b .padd .i64 (.w .i64 (.f 13 (.v 3) (.c 21) (.c 0))) (.c 3))) (.c 5))])
  (.leaf [(.c 0)]))
  (.br (.b .eq .i64 (.w .i64 (.f 13 (.v 3) (.c 11) (.c 0))) (.c 1))
  (.leaf [(.b .eq .i64 (.w .i64 (.b .padd .i64 (.w .i64 (.f 13 (.v 3) (.c 21) (.c 0))) (.c 3))) (.c 5))])
  (.leaf [(.c 0)])))

def P (a0 a1 a2 a3 : Int) : Prop :=
 (((bool01 (a2 == 0)) ≠ 0 →
  (((bool01 ((IntKind.wrap .i64 (rdZ a3 11)) == 1)) ≠ 0 →
   ((bool01 ((IntKind.wrap .i64 ((IntKind.wrap .i64 (rdZ a3 21)) + 3)) == 5)) : Int) ≠ 0) ∧ ((bool01 ((IntKind.wrap .i64 (rdZ a3 11)) == 1)) = 0 →
   (0 : Int) ≠ 0))) ∧ ((bool01 (a2 == 0)) = 0 →
  (((bool01 ((IntKind.wrap .i64 (rdZ a3 11)) == 1)) ≠ 0 →
   ((bool01 ((IntKind.wrap .i64 ((IntKind.wrap .i64 (rdZ a3 21)) + 3)) == 5)) : Int) ≠ 0) ∧ ((bool01 ((IntKind.wrap .i64 (rdZ a3 11)) == 1)) = 0 →
   (0 : Int) ≠ 0))))

theorem plain (a0 a1 a2 a3 : Int) (ro : List RO) : TT.hdP (cxOf 2 [(12, 12), (-2147483648, 2147483647), (-2147483648, 2147483647)] [⟨[.int .i64], .v 3, .c 43, .c 43, some 0⟩]) isOne tree (envR [a0, a1, a2, a3] ro) = P a0 a1 a2 a3 := by kernel_rfl

theorem holds (a0 a1 a2 : Int) (l0 : 12 ≤ a0) (u0 : a0 ≤ 12) (l1 : -2147483648 ≤ a1) (u1 : a1 ≤ 2147483647) (l2 : -2147483648 ≤ a2) (u2 : a2 ≤ 2147483647) : P a0 a1 a2 (LZ tab0) := by
  have h5 : (IntKind.wrap .i64 ((IntKind.wrap .i64 (rdZ (LZ tab0) 21)) + 3)) = 5 := by rw [rdZ_LZ]; decide
  have r1 : 12 < 1 ∨ 43 < 12 ∨ IntKind.wrap .i64 (rdZ (LZ tab0) (11)) = 1 := by
    first
      | exact .inl (by decide)
      | exact .inr (.inl (by decide))
      | exact .inr (.inr (by rw [rdZ_LZ]; decide))
  unfold P
  first
    | (rcases r1 with r1 | r1 | r1 <;> simp [h5, r1, bool01]; done)
    | (simp [h5, bool01]; done)
    | (simp [h5] at *; simp_all [bool01]; done)

theorem ran : TT.beq (projL pjB (runA [(12, 12), (-2147483648, 2147483647), (-2147483648, 2147483647)] 3 [.int .i64 (.c 12), .int .i32 (.v 1), .int .i32 (.v 2)] ⟨[], []⟩)) tree = true := by kernel_rfl
theorem fineT : (TT.fine (cxOf 2 [(12, 12), (-2147483648, 2147483647), (-2147483648, 2147483647)] [⟨[.int .i64], .v 3, .c 43, .c 43, some 0⟩]) 1000 [] tree && (cxOf 2 [(12, 12), (-2147483648, 2147483647), (-2147483648, 2147483647)] [⟨[.int .i64], .v 3, .c 43, .c 43, some 0⟩]).okB 1000 && SV.vbL 1000 [.int .i64 (.c 12), .int .i32 (.v 1), .int .i32 (.v 2)] && TT.tidy (cxOf 2 [(12, 12), (-2147483648, 2147483647), (-2147483648, 2147483647)] [⟨[.int .i64], .v 3, .c 43, .c 43, some 0⟩]) [] tree) = true := by kernel_rfl
theorem walk (a0 a1 a2 : Int) (w0 : (Lit.int .i64 a0).wf = true) (w1 : (Lit.int .i32 a1).wf = true) (w2 : (Lit.int .i32 a2).wf = true) (w : World) (t0 : Lib.TabIs Tryz.prog w "astrolabe/ops.costs" .i64 tab0) (hc : 12 ≤ a0 ∧ a0 ≤ 12) :
    Calls Tryz.prog 3 #[.int .i64 a0, .int .i32 a1, .int .i32 a2] w fun e w' => e = .returned (.bool true) ∧ Below w.heap.size w w' :=
  lawT_of (runA_ok [(12, 12), (-2147483648, 2147483647), (-2147483648, 2147483647)]) (ρ := envR [a0, a1, a2, LZ tab0] [tabRo 0 .i64 tab0]) (envR_ok (cx := cxOf 2 [(12, 12), (-2147483648, 2147483647), (-2147483648, 2147483647)] [⟨[.int .i64], .v 3, .c 43, .c 43, some 0⟩]) rfl rfl (bnd_cons hc (bnd_cons (wf_bd w1) (bnd_cons (wf_bd w2) (bnd_nil _)))) ⟨⟨rfl, rfl, rfl, rfl, (fun h => by cases h), fun g h => by cases h; rfl⟩, trivial⟩) (f := 3) (args := [.int .i64 (.c 12), .int .i32 (.v 1), .int .i32 (.v 2)]) (t := tree) ran fineT
    (by rw [plain]; exact holds a0 a1 a2 hc.1 hc.2 (wf_bd w1).1 (wf_bd w1).2 (wf_bd w2).1 (wf_bd w2).2) (roOk_of ⟨tabRo_at t0 tabG0 tabW0, trivial⟩) (by obtain rfl : a0 = 12 := (by omega); rfl)

end c12

namespace c13
def tree : TT (List E) :=
(.br (.b .lt .i64 (.v 1) (.v 2))
  (.br (.b .eq .i64 (.v 2) (.c 0))
  (.br (.b .eq .i64 (.w .i64 (.f 13 (.v 3) (.c 12) (.c 0))) (.c 1))
  (.leaf [(.b .eq .i64 (.w .i64 (.b .padd .i64 (.w .i64 (.f 13 (.v 3) (.c 21) (.c 0))) (.c 3))) (.c 5))])
  (.leaf [(.c 0)]))
  (.br (.b .eq .i64 (.w .i64 (.f 13 (.v 3) (.c 12) (.c 0))) (.c 1))
  (.leaf [(.b .eq .i64 (.w .i64 (.b .padd .i64 (.w .i64 (.f 13 (.v 3) (.c 21) (.c 0))) (.c 3))) (.c 5))])
  (.leaf [(.c 0)])))
  (.br (.b .eq .i64 (.v 2) (.c 0))
  (.br (.b .eq .i64 (.w .i64 (.f 13 (.v 3) (.c 12) (.c 0))) (.c 1))
  (.leaf [(.b .eq .i64 (.w .i64 (.b .padd .i64 (.w .i64 (.f 13 (.v 3) (.c 21) (.c 0))) (.c 3))) (.c 5))])
  (.leaf [(.c 0)]))
  (.br (.b .eq .i64 (.w .i64 (.f 13 (.v 3) (.c 12) (.c 0))) (.c 1))
  (.leaf [(.b .eq .i64 (.w .i64 (.b .padd .i64 (.w .i64 (.f 13 (.v 3) (.c 21) (.c 0))) (.c 3))) (.c 5))])
  (.leaf [(.c 0)]))))

def P (a0 a1 a2 a3 : Int) : Prop :=
 (((bool01 (decide (a1 < a2))) ≠ 0 →
  (((bool01 (a2 == 0)) ≠ 0 →
   (((bool01 ((IntKind.wrap .i64 (rdZ a3 12)) == 1)) ≠ 0 →
    ((bool01 ((IntKind.wrap .i64 ((IntKind.wrap .i64 (rdZ a3 21)) + 3)) == 5)) : Int) ≠ 0) ∧ ((bool01 ((IntKind.wrap .i64 (rdZ a3 12)) == 1)) = 0 →
    (0 : Int) ≠ 0))) ∧ ((bool01 (a2 == 0)) = 0 →
   (((bool01 ((IntKind.wrap .i64 (rdZ a3 12)) == 1)) ≠ 0 →
    ((bool01 ((IntKind.wrap .i64 ((IntKind.wrap .i64 (rdZ a3 21)) + 3)) == 5)) : Int) ≠ 0) ∧ ((bool01 ((IntKind.wrap .i64 (rdZ a3 12)) == 1)) = 0 →
    (0 : Int) ≠ 0))))) ∧ ((bool01 (decide (a1 < a2))) = 0 →
  (((bool01 (a2 == 0)) ≠ 0 →
   (((bool01 ((IntKind.wrap .i64 (rdZ a3 12)) == 1)) ≠ 0 →
    ((bool01 ((IntKind.wrap .i64 ((IntKind.wrap .i64 (rdZ a3 21)) + 3)) == 5)) : Int) ≠ 0) ∧ ((bool01 ((IntKind.wrap .i64 (rdZ a3 12)) == 1)) = 0 →
    (0 : Int) ≠ 0))) ∧ ((bool01 (a2 == 0)) = 0 →
   (((bool01 ((IntKind.wrap .i64 (rdZ a3 12)) == 1)) ≠ 0 →
    ((bool01 ((IntKind.wrap .i64 ((IntKind.wrap .i64 (rdZ a3 21)) + 3)) == 5)) : Int) ≠ 0) ∧ ((bool01 ((IntKind.wrap .i64 (rdZ a3 12)) == 1)) = 0 →
    (0 : Int) ≠ 0))))))

theorem plain (a0 a1 a2 a3 : Int) (ro : List RO) : TT.hdP (cxOf 2 [(13, 13), (-2147483648, 2147483647), (-2147483648, 2147483647)] [⟨[.int .i64], .v 3, .c 43, .c 43, some 0⟩]) isOne tree (envR [a0, a1, a2, a3] ro) = P a0 a1 a2 a3 := by kernel_rfl

theorem holds (a0 a1 a2 : Int) (l0 : 13 ≤ a0) (u0 : a0 ≤ 13) (l1 : -2147483648 ≤ a1) (u1 : a1 ≤ 2147483647) (l2 : -2147483648 ≤ a2) (u2 : a2 ≤ 2147483647) : P a0 a1 a2 (LZ tab0) := by
  have h5 : (IntKind.wrap .i64 ((IntKind.wrap .i64 (rdZ (LZ tab0) 21)) + 3)) = 5 := by rw [rdZ_LZ]; decide
  have r1 : 13 < 1 ∨ 43 < 13 ∨ IntKind.wrap .i64 (rdZ (LZ tab0) (12)) = 1 := by
    first
      | exact .inl (by decide)
      | exact .inr (.inl (by decide))
      | exact .inr (.inr (by rw [rdZ_LZ]; decide))
  unfold P
  first
    | (rcases r1 with r1 | r1 | r1 <;> simp [h5, r1, bool01]; done)
    | (simp [h5, bool01]; done)
    | (simp [h5] at *; simp_all [bool01]; done)

theorem ran : TT.beq (projL pjB (runA [(13, 13), (-2147483648, 2147483647), (-2147483648, 2147483647)] 3 [.int .i64 (.c 13), .int .i32 (.v 1), .int .i32 (.v 2)] ⟨[], []⟩)) tree = true := by kernel_rfl
theorem fineT : (TT.fine (cxOf 2 [(13, 13), (-2147483648, 2147483647), (-2147483648, 2147483647)] [⟨[.int .i64], .v 3, .c 43, .c 43, some 0⟩]) 1000 [] tree && (cxOf 2 [(13, 13), (-2147483648, 2147483647), (-2147483648, 2147483647)] [⟨[.int .i64], .v 3, .c 43, .c 43, some 0⟩]).okB 1000 && SV.vbL 1000 [.int .i64 (.c 13), .int .i32 (.v 1), .int .i32 (.v 2)] && TT.tidy (cxOf 2 [(13, 13), (-2147483648, 2147483647), (-2147483648, 2147483647)] [⟨[.int .i64], .v 3, .c 43, .c 43, some 0⟩]) [] tree) = true := by kernel_rfl
theorem walk (a0 a1 a2 : Int) (w0 : (Lit.int .i64 a0).wf = true) (w1 : (Lit.int .i32 a1).wf = true) (w2 : (Lit.int .i32 a2).wf = true) (w : World) (t0 : Lib.TabIs Tryz.prog w "astrolabe/ops.costs" .i64 tab0) (hc : 13 ≤ a0 ∧ a0 ≤ 13) :
    Calls Tryz.prog 3 #[.int .i64 a0, .int .i32 a1, .int .i32 a2] w fun e w' => e = .returned (.bool true) ∧ Below w.heap.size w w' :=
  lawT_of (runA_ok [(13, 13), (-2147483648, 2147483647), (-2147483648, 2147483647)]) (ρ := envR [a0, a1, a2, LZ tab0] [tabRo 0 .i64 tab0]) (envR_ok (cx := cxOf 2 [(13, 13), (-2147483648, 2147483647), (-2147483648, 2147483647)] [⟨[.int .i64], .v 3, .c 43, .c 43, some 0⟩]) rfl rfl (bnd_cons hc (bnd_cons (wf_bd w1) (bnd_cons (wf_bd w2) (bnd_nil _)))) ⟨⟨rfl, rfl, rfl, rfl, (fun h => by cases h), fun g h => by cases h; rfl⟩, trivial⟩) (f := 3) (args := [.int .i64 (.c 13), .int .i32 (.v 1), .int .i32 (.v 2)]) (t := tree) ran fineT
    (by rw [plain]; exact holds a0 a1 a2 hc.1 hc.2 (wf_bd w1).1 (wf_bd w1).2 (wf_bd w2).1 (wf_bd w2).2) (roOk_of ⟨tabRo_at t0 tabG0 tabW0, trivial⟩) (by obtain rfl : a0 = 13 := (by omega); rfl)

end c13

namespace c14
def tree : TT (List E) :=
(.br (.b .lt .i64 (.w .u32 (.v 1)) (.w .u32 (.v 2)))
  (.br (.b .eq .i64 (.v 2) (.c 0))
  (.br (.b .eq .i64 (.w .i64 (.f 13 (.v 3) (.c 13) (.c 0))) (.c 1))
  (.leaf [(.b .eq .i64 (.w .i64 (.b .padd .i64 (.w .i64 (.f 13 (.v 3) (.c 21) (.c 0))) (.c 3))) (.c 5))])
  (.leaf [(.c 0)]))
  (.br (.b .eq .i64 (.w .i64 (.f 13 (.v 3) (.c 13) (.c 0))) (.c 1))
  (.leaf [(.b .eq .i64 (.w .i64 (.b .padd .i64 (.w .i64 (.f 13 (.v 3) (.c 21) (.c 0))) (.c 3))) (.c 5))])
  (.leaf [(.c 0)])))
  (.br (.b .eq .i64 (.v 2) (.c 0))
  (.br (.b .eq .i64 (.w .i64 (.f 13 (.v 3) (.c 13) (.c 0))) (.c 1))
  (.leaf [(.b .eq .i64 (.w .i64 (.b .padd .i64 (.w .i64 (.f 13 (.v 3) (.c 21) (.c 0))) (.c 3))) (.c 5))])
  (.leaf [(.c 0)]))
  (.br (.b .eq .i64 (.w .i64 (.f 13 (.v 3) (.c 13) (.c 0))) (.c 1))
  (.leaf [(.b .eq .i64 (.w .i64 (.b .padd .i64 (.w .i64 (.f 13 (.v 3) (.c 21) (.c 0))) (.c 3))) (.c 5))])
  (.leaf [(.c 0)]))))

def P (a0 a1 a2 a3 : Int) : Prop :=
 (((bool01 (decide ((IntKind.wrap .u32 a1) < (IntKind.wrap .u32 a2)))) ≠ 0 →
  (((bool01 (a2 == 0)) ≠ 0 →
   (((bool01 ((IntKind.wrap .i64 (rdZ a3 13)) == 1)) ≠ 0 →
    ((bool01 ((IntKind.wrap .i64 ((IntKind.wrap .i64 (rdZ a3 21)) + 3)) == 5)) : Int) ≠ 0) ∧ ((bool01 ((IntKind.wrap .i64 (rdZ a3 13)) == 1)) = 0 →
    (0 : Int) ≠ 0))) ∧ ((bool01 (a2 == 0)) = 0 →
   (((bool01 ((IntKind.wrap .i64 (rdZ a3 13)) == 1)) ≠ 0 →
    ((bool01 ((IntKind.wrap .i64 ((IntKind.wrap .i64 (rdZ a3 21)) + 3)) == 5)) : Int) ≠ 0) ∧ ((bool01 ((IntKind.wrap .i64 (rdZ a3 13)) == 1)) = 0 →
    (0 : Int) ≠ 0))))) ∧ ((bool01 (decide ((IntKind.wrap .u32 a1) < (IntKind.wrap .u32 a2)))) = 0 →
  (((bool01 (a2 == 0)) ≠ 0 →
   (((bool01 ((IntKind.wrap .i64 (rdZ a3 13)) == 1)) ≠ 0 →
    ((bool01 ((IntKind.wrap .i64 ((IntKind.wrap .i64 (rdZ a3 21)) + 3)) == 5)) : Int) ≠ 0) ∧ ((bool01 ((IntKind.wrap .i64 (rdZ a3 13)) == 1)) = 0 →
    (0 : Int) ≠ 0))) ∧ ((bool01 (a2 == 0)) = 0 →
   (((bool01 ((IntKind.wrap .i64 (rdZ a3 13)) == 1)) ≠ 0 →
    ((bool01 ((IntKind.wrap .i64 ((IntKind.wrap .i64 (rdZ a3 21)) + 3)) == 5)) : Int) ≠ 0) ∧ ((bool01 ((IntKind.wrap .i64 (rdZ a3 13)) == 1)) = 0 →
    (0 : Int) ≠ 0))))))

theorem plain (a0 a1 a2 a3 : Int) (ro : List RO) : TT.hdP (cxOf 2 [(14, 14), (-2147483648, 2147483647), (-2147483648, 2147483647)] [⟨[.int .i64], .v 3, .c 43, .c 43, some 0⟩]) isOne tree (envR [a0, a1, a2, a3] ro) = P a0 a1 a2 a3 := by kernel_rfl

theorem holds (a0 a1 a2 : Int) (l0 : 14 ≤ a0) (u0 : a0 ≤ 14) (l1 : -2147483648 ≤ a1) (u1 : a1 ≤ 2147483647) (l2 : -2147483648 ≤ a2) (u2 : a2 ≤ 2147483647) : P a0 a1 a2 (LZ tab0) := by
  have h5 : (IntKind.wrap .i64 ((IntKind.wrap .i64 (rdZ (LZ tab0) 21)) + 3)) = 5 := by rw [rdZ_LZ]; decide
  have r1 : 14 < 1 ∨ 43 < 14 ∨ IntKind.wrap .i64 (rdZ (LZ tab0) (13)) = 1 := by
    first
      | exact .inl (by decide)
      | exact .inr (.inl (by decide))
      | exact .inr (.inr (by rw [rdZ_LZ]; decide))
  unfold P
  first
    | (rcases r1 with r1 | r1 | r1 <;> simp [h5, r1, bool01]; done)
    | (simp [h5, bool01]; done)
    | (simp [h5] at *; simp_all [bool01]; done)

theorem ran : TT.beq (projL pjB (runA [(14, 14), (-2147483648, 2147483647), (-2147483648, 2147483647)] 3 [.int .i64 (.c 14), .int .i32 (.v 1), .int .i32 (.v 2)] ⟨[], []⟩)) tree = true := by kernel_rfl
theorem fineT : (TT.fine (cxOf 2 [(14, 14), (-2147483648, 2147483647), (-2147483648, 2147483647)] [⟨[.int .i64], .v 3, .c 43, .c 43, some 0⟩]) 1000 [] tree && (cxOf 2 [(14, 14), (-2147483648, 2147483647), (-2147483648, 2147483647)] [⟨[.int .i64], .v 3, .c 43, .c 43, some 0⟩]).okB 1000 && SV.vbL 1000 [.int .i64 (.c 14), .int .i32 (.v 1), .int .i32 (.v 2)] && TT.tidy (cxOf 2 [(14, 14), (-2147483648, 2147483647), (-2147483648, 2147483647)] [⟨[.int .i64], .v 3, .c 43, .c 43, some 0⟩]) [] tree) = true := by kernel_rfl
theorem walk (a0 a1 a2 : Int) (w0 : (Lit.int .i64 a0).wf = true) (w1 : (Lit.int .i32 a1).wf = true) (w2 : (Lit.int .i32 a2).wf = true) (w : World) (t0 : Lib.TabIs Tryz.prog w "astrolabe/ops.costs" .i64 tab0) (hc : 14 ≤ a0 ∧ a0 ≤ 14) :
    Calls Tryz.prog 3 #[.int .i64 a0, .int .i32 a1, .int .i32 a2] w fun e w' => e = .returned (.bool true) ∧ Below w.heap.size w w' :=
  lawT_of (runA_ok [(14, 14), (-2147483648, 2147483647), (-2147483648, 2147483647)]) (ρ := envR [a0, a1, a2, LZ tab0] [tabRo 0 .i64 tab0]) (envR_ok (cx := cxOf 2 [(14, 14), (-2147483648, 2147483647), (-2147483648, 2147483647)] [⟨[.int .i64], .v 3, .c 43, .c 43, some 0⟩]) rfl rfl (bnd_cons hc (bnd_cons (wf_bd w1) (bnd_cons (wf_bd w2) (bnd_nil _)))) ⟨⟨rfl, rfl, rfl, rfl, (fun h => by cases h), fun g h => by cases h; rfl⟩, trivial⟩) (f := 3) (args := [.int .i64 (.c 14), .int .i32 (.v 1), .int .i32 (.v 2)]) (t := tree) ran fineT
    (by rw [plain]; exact holds a0 a1 a2 hc.1 hc.2 (wf_bd w1).1 (wf_bd w1).2 (wf_bd w2).1 (wf_bd w2).2) (roOk_of ⟨tabRo_at t0 tabG0 tabW0, trivial⟩) (by obtain rfl : a0 = 14 := (by omega); rfl)

end c14

namespace c15
def tree : TT (List E) :=
(.br (.b .eq .i64 (.v 1) (.v 2))
  (.br (.b .eq .i64 (.v 2) (.c 0))
  (.br (.b .eq .i64 (.w .i64 (.f 13 (.v 3) (.c 14) (.c 0))) (.c 1))
  (.leaf [(.b .eq .i64 (.w .i64 (.b .padd .i64 (.w .i64 (.f 13 (.v 3) (.c 21) (.c 0))) (.c 3))) (.c 5))])
  (.leaf [(.c 0)]))
  (.br (.b .eq .i64 (.w .i64 (.f 13 (.v 3) (.c 14) (.c 0))) (.c 1))
  (.leaf [(.b .eq .i64 (.w .i64 (.b .padd .i64 (.w .i64 (.f 13 (.v 3) (.c 21) (.c 0))) (.c 3))) (.c 5))])
  (.leaf [(.c 0)])))
  (.br (.b .eq .i64 (.v 2) (.c 0))
  (.br (.b .eq .i64 (.w .i64 (.f 13 (.v 3) (.c 14) (.c 0))) (.c 1))
  (.leaf [(.b .eq .i64 (.w .i64 (.b .padd .i64 (.w .i64 (.f 13 (.v 3) (.c 21) (.c 0))) (.c 3))) (.c 5))])
  (.leaf [(.c 0)]))
  (.br (.b .eq .i64 (.w .i64 (.f 13 (.v 3) (.c 14) (.c 0))) (.c 1))
  (.leaf [(.b .eq .i64 (.w .i64 (.b .padd .i64 (.w .i64 (.f 13 (.v 3) (.c 21) (.c 0))) (.c 3))) (.c 5))])
  (.leaf [(.c 0)]))))

def P (a0 a1 a2 a3 : Int) : Prop :=
 (((bool01 (a1 == a2)) ≠ 0 →
  (((bool01 (a2 == 0)) ≠ 0 →
   (((bool01 ((IntKind.wrap .i64 (rdZ a3 14)) == 1)) ≠ 0 →
    ((bool01 ((IntKind.wrap .i64 ((IntKind.wrap .i64 (rdZ a3 21)) + 3)) == 5)) : Int) ≠ 0) ∧ ((bool01 ((IntKind.wrap .i64 (rdZ a3 14)) == 1)) = 0 →
    (0 : Int) ≠ 0))) ∧ ((bool01 (a2 == 0)) = 0 →
   (((bool01 ((IntKind.wrap .i64 (rdZ a3 14)) == 1)) ≠ 0 →
    ((bool01 ((IntKind.wrap .i64 ((IntKind.wrap .i64 (rdZ a3 21)) + 3)) == 5)) : Int) ≠ 0) ∧ ((bool01 ((IntKind.wrap .i64 (rdZ a3 14)) == 1)) = 0 →
    (0 : Int) ≠ 0))))) ∧ ((bool01 (a1 == a2)) = 0 →
  (((bool01 (a2 == 0)) ≠ 0 →
   (((bool01 ((IntKind.wrap .i64 (rdZ a3 14)) == 1)) ≠ 0 →
    ((bool01 ((IntKind.wrap .i64 ((IntKind.wrap .i64 (rdZ a3 21)) + 3)) == 5)) : Int) ≠ 0) ∧ ((bool01 ((IntKind.wrap .i64 (rdZ a3 14)) == 1)) = 0 →
    (0 : Int) ≠ 0))) ∧ ((bool01 (a2 == 0)) = 0 →
   (((bool01 ((IntKind.wrap .i64 (rdZ a3 14)) == 1)) ≠ 0 →
    ((bool01 ((IntKind.wrap .i64 ((IntKind.wrap .i64 (rdZ a3 21)) + 3)) == 5)) : Int) ≠ 0) ∧ ((bool01 ((IntKind.wrap .i64 (rdZ a3 14)) == 1)) = 0 →
    (0 : Int) ≠ 0))))))

theorem plain (a0 a1 a2 a3 : Int) (ro : List RO) : TT.hdP (cxOf 2 [(15, 15), (-2147483648, 2147483647), (-2147483648, 2147483647)] [⟨[.int .i64], .v 3, .c 43, .c 43, some 0⟩]) isOne tree (envR [a0, a1, a2, a3] ro) = P a0 a1 a2 a3 := by kernel_rfl

theorem holds (a0 a1 a2 : Int) (l0 : 15 ≤ a0) (u0 : a0 ≤ 15) (l1 : -2147483648 ≤ a1) (u1 : a1 ≤ 2147483647) (l2 : -2147483648 ≤ a2) (u2 : a2 ≤ 2147483647) : P a0 a1 a2 (LZ tab0) := by
  have h5 : (IntKind.wrap .i64 ((IntKind.wrap .i64 (rdZ (LZ tab0) 21)) + 3)) = 5 := by rw [rdZ_LZ]; decide
  have r1 : 15 < 1 ∨ 43 < 15 ∨ IntKind.wrap .i64 (rdZ (LZ tab0) (14)) = 1 := by
    first
      | exact .inl (by decide)
      | exact .inr (.inl (by decide))
      | exact .inr (.inr (by rw [rdZ_LZ]; decide))
  unfold P
  first
    | (rcases r1 with r1 | r1 | r1 <;> simp [h5, r1, bool01]; done)
    | (simp [h5, bool01]; done)
    | (simp [h5] at *; simp_all [bool01]; done)

theorem ran : TT.beq (projL pjB (runA [(15, 15), (-2147483648, 2147483647), (-2147483648, 2147483647)] 3 [.int .i64 (.c 15), .int .i32 (.v 1), .int .i32 (.v 2)] ⟨[], []⟩)) tree = true := by kernel_rfl
theorem fineT : (TT.fine (cxOf 2 [(15, 15), (-2147483648, 2147483647), (-2147483648, 2147483647)] [⟨[.int .i64], .v 3, .c 43, .c 43, some 0⟩]) 1000 [] tree && (cxOf 2 [(15, 15), (-2147483648, 2147483647), (-2147483648, 2147483647)] [⟨[.int .i64], .v 3, .c 43, .c 43, some 0⟩]).okB 1000 && SV.vbL 1000 [.int .i64 (.c 15), .int .i32 (.v 1), .int .i32 (.v 2)] && TT.tidy (cxOf 2 [(15, 15), (-2147483648, 2147483647), (-2147483648, 2147483647)] [⟨[.int .i64], .v 3, .c 43, .c 43, some 0⟩]) [] tree) = true := by kernel_rfl
theorem walk (a0 a1 a2 : Int) (w0 : (Lit.int .i64 a0).wf = true) (w1 : (Lit.int .i32 a1).wf = true) (w2 : (Lit.int .i32 a2).wf = true) (w : World) (t0 : Lib.TabIs Tryz.prog w "astrolabe/ops.costs" .i64 tab0) (hc : 15 ≤ a0 ∧ a0 ≤ 15) :
    Calls Tryz.prog 3 #[.int .i64 a0, .int .i32 a1, .int .i32 a2] w fun e w' => e = .returned (.bool true) ∧ Below w.heap.size w w' :=
  lawT_of (runA_ok [(15, 15), (-2147483648, 2147483647), (-2147483648, 2147483647)]) (ρ := envR [a0, a1, a2, LZ tab0] [tabRo 0 .i64 tab0]) (envR_ok (cx := cxOf 2 [(15, 15), (-2147483648, 2147483647), (-2147483648, 2147483647)] [⟨[.int .i64], .v 3, .c 43, .c 43, some 0⟩]) rfl rfl (bnd_cons hc (bnd_cons (wf_bd w1) (bnd_cons (wf_bd w2) (bnd_nil _)))) ⟨⟨rfl, rfl, rfl, rfl, (fun h => by cases h), fun g h => by cases h; rfl⟩, trivial⟩) (f := 3) (args := [.int .i64 (.c 15), .int .i32 (.v 1), .int .i32 (.v 2)]) (t := tree) ran fineT
    (by rw [plain]; exact holds a0 a1 a2 hc.1 hc.2 (wf_bd w1).1 (wf_bd w1).2 (wf_bd w2).1 (wf_bd w2).2) (roOk_of ⟨tabRo_at t0 tabG0 tabW0, trivial⟩) (by obtain rfl : a0 = 15 := (by omega); rfl)

end c15

namespace c16
def tree : TT (List E) :=
(.br (.b .eq .i64 (.v 2) (.c 0))
  (.br (.b .eq .i64 (.w .i64 (.f 13 (.v 3) (.c 15) (.c 0))) (.c 1))
  (.leaf [(.b .eq .i64 (.w .i64 (.b .padd .i64 (.w .i64 (.f 13 (.v 3) (.c 21) (.c 0))) (.c 3))) (.c 5))])
  (.leaf [(.c 0)]))
  (.br (.b .eq .i64 (.w .i64 (.f 13 (.v 3) (.c 15) (.c 0))) (.c 1))
  (.leaf [(.b .eq .i64 (.w .i64 (.b .padd .i64 (.w .i64 (.f 13 (.v 3) (.c 21) (.c 0))) (.c 3))) (.c 5))])
  (.leaf [(.c 0)])))

def P (a0 a1 a2 a3 : Int) : Prop :=
 (((bool01 (a2 == 0)) ≠ 0 →
  (((bool01 ((IntKind.wrap .i64 (rdZ a3 15)) == 1)) ≠ 0 →
   ((bool01 ((IntKind.wrap .i64 ((IntKind.wrap .i64 (rdZ a3 21)) + 3)) == 5)) : Int) ≠ 0) ∧ ((bool01 ((IntKind.wrap .i64 (rdZ a3 15)) == 1)) = 0 →
   (0 : Int) ≠ 0))) ∧ ((bool01 (a2 == 0)) = 0 →
  (((bool01 ((IntKind.wrap .i64 (rdZ a3 15)) == 1)) ≠ 0 →
   ((bool01 ((IntKind.wrap .i64 ((IntKind.wrap .i64 (rdZ a3 21)) + 3)) == 5)) : Int) ≠ 0) ∧ ((bool01 ((IntKind.wrap .i64 (rdZ a3 15)) == 1)) = 0 →
   (0 : Int) ≠ 0))))

theorem plain (a0 a1 a2 a3 : Int) (ro : List RO) : TT.hdP (cxOf 2 [(16, 16), (-2147483648, 2147483647), (-2147483648, 2147483647)] [⟨[.int .i64], .v 3, .c 43, .c 43, some 0⟩]) isOne tree (envR [a0, a1, a2, a3] ro) = P a0 a1 a2 a3 := by kernel_rfl

theorem holds (a0 a1 a2 : Int) (l0 : 16 ≤ a0) (u0 : a0 ≤ 16) (l1 : -2147483648 ≤ a1) (u1 : a1 ≤ 2147483647) (l2 : -2147483648 ≤ a2) (u2 : a2 ≤ 2147483647) : P a0 a1 a2 (LZ tab0) := by
  have h5 : (IntKind.wrap .i64 ((IntKind.wrap .i64 (rdZ (LZ tab0) 21)) + 3)) = 5 := by rw [rdZ_LZ]; decide
  have r1 : 16 < 1 ∨ 43 < 16 ∨ IntKind.wrap .i64 (rdZ (LZ tab0) (15)) = 1 := by
    first
      | exact .inl (by decide)
      | exact .inr (.inl (by decide))
      | exact .inr (.inr (by rw [rdZ_LZ]; decide))
  unfold P
  first
    | (rcases r1 with r1 | r1 | r1 <;> simp [h5, r1, bool01]; done)
    | (simp [h5, bool01]; done)
    | (simp [h5] at *; simp_all [bool01]; done)

theorem ran : TT.beq (projL pjB (runA [(16, 16), (-2147483648, 2147483647), (-2147483648, 2147483647)] 3 [.int .i64 (.c 16), .int .i32 (.v 1), .int .i32 (.v 2)] ⟨[], []⟩)) tree = true := by kernel_rfl
theorem fineT : (TT.fine (cxOf 2 [(16, 16), (-2147483648, 2147483647), (-2147483648, 2147483647)] [⟨[.int .i64], .v 3, .c 43, .c 43, some 0⟩]) 1000 [] tree && (cxOf 2 [(16, 16), (-2147483648, 2147483647), (-2147483648, 2147483647)] [⟨[.int .i64], .v 3, .c 43, .c 43, some 0⟩]).okB 1000 && SV.vbL 1000 [.int .i64 (.c 16), .int .i32 (.v 1), .int .i32 (.v 2)] && TT.tidy (cxOf 2 [(16, 16), (-2147483648, 2147483647), (-2147483648, 2147483647)] [⟨[.int .i64], .v 3, .c 43, .c 43, some 0⟩]) [] tree) = true := by kernel_rfl
theorem walk (a0 a1 a2 : Int) (w0 : (Lit.int .i64 a0).wf = true) (w1 : (Lit.int .i32 a1).wf = true) (w2 : (Lit.int .i32 a2).wf = true) (w : World) (t0 : Lib.TabIs Tryz.prog w "astrolabe/ops.costs" .i64 tab0) (hc : 16 ≤ a0 ∧ a0 ≤ 16) :
    Calls Tryz.prog 3 #[.int .i64 a0, .int .i32 a1, .int .i32 a2] w fun e w' => e = .returned (.bool true) ∧ Below w.heap.size w w' :=
  lawT_of (runA_ok [(16, 16), (-2147483648, 2147483647), (-2147483648, 2147483647)]) (ρ := envR [a0, a1, a2, LZ tab0] [tabRo 0 .i64 tab0]) (envR_ok (cx := cxOf 2 [(16, 16), (-2147483648, 2147483647), (-2147483648, 2147483647)] [⟨[.int .i64], .v 3, .c 43, .c 43, some 0⟩]) rfl rfl (bnd_cons hc (bnd_cons (wf_bd w1) (bnd_cons (wf_bd w2) (bnd_nil _)))) ⟨⟨rfl, rfl, rfl, rfl, (fun h => by cases h), fun g h => by cases h; rfl⟩, trivial⟩) (f := 3) (args := [.int .i64 (.c 16), .int .i32 (.v 1), .int .i32 (.v 2)]) (t := tree) ran fineT
    (by rw [plain]; exact holds a0 a1 a2 hc.1 hc.2 (wf_bd w1).1 (wf_bd w1).2 (wf_bd w2).1 (wf_bd w2).2) (roOk_of ⟨tabRo_at t0 tabG0 tabW0, trivial⟩) (by obtain rfl : a0 = 16 := (by omega); rfl)

end c16

namespace c17
def tree : TT (List E) :=
(.br (.b .eq .i64 (.v 2) (.c 0))
  (.br (.b .eq .i64 (.w .i64 (.f 13 (.v 3) (.c 16) (.c 0))) (.c 1))
  (.leaf [(.b .eq .i64 (.w .i64 (.b .padd .i64 (.w .i64 (.f 13 (.v 3) (.c 21) (.c 0))) (.c 3))) (.c 5))])
  (.leaf [(.c 0)]))
  (.br (.b .eq .i64 (.w .i64 (.f 13 (.v 3) (.c 16) (.c 0))) (.c 1))
  (.leaf [(.b .eq .i64 (.w .i64 (.b .padd .i64 (.w .i64 (.f 13 (.v 3) (.c 21) (.c 0))) (.c 3))) (.c 5))])
  (.leaf [(.c 0)])))

def P (a0 a1 a2 a3 : Int) : Prop :=
 (((bool01 (a2 == 0)) ≠ 0 →
  (((bool01 ((IntKind.wrap .i64 (rdZ a3 16)) == 1)) ≠ 0 →
   ((bool01 ((IntKind.wrap .i64 ((IntKind.wrap .i64 (rdZ a3 21)) + 3)) == 5)) : Int) ≠ 0) ∧ ((bool01 ((IntKind.wrap .i64 (rdZ a3 16)) == 1)) = 0 →
   (0 : Int) ≠ 0))) ∧ ((bool01 (a2 == 0)) = 0 →
  (((bool01 ((IntKind.wrap .i64 (rdZ a3 16)) == 1)) ≠ 0 →
   ((bool01 ((IntKind.wrap .i64 ((IntKind.wrap .i64 (rdZ a3 21)) + 3)) == 5)) : Int) ≠ 0) ∧ ((bool01 ((IntKind.wrap .i64 (rdZ a3 16)) == 1)) = 0 →
   (0 : Int) ≠ 0))))

theorem plain (a0 a1 a2 a3 : Int) (ro : List RO) : TT.hdP (cxOf 2 [(17, 17), (-2147483648, 2147483647), (-2147483648, 2147483647)] [⟨[.int .i64], .v 3, .c 43, .c 43, some 0⟩]) isOne tree (envR [a0, a1, a2, a3] ro) = P a0 a1 a2 a3 := by kernel_rfl

theorem holds (a0 a1 a2 : Int) (l0 : 17 ≤ a0) (u0 : a0 ≤ 17) (l1 : -2147483648 ≤ a1) (u1 : a1 ≤ 2147483647) (l2 : -2147483648 ≤ a2) (u2 : a2 ≤ 2147483647) : P a0 a1 a2 (LZ tab0) := by
  have h5 : (IntKind.wrap .i64 ((IntKind.wrap .i64 (rdZ (LZ tab0) 21)) + 3)) = 5 := by rw [rdZ_LZ]; decide
  have r1 : 17 < 1 ∨ 43 < 17 ∨ IntKind.wrap .i64 (rdZ (LZ tab0) (16)) = 1 := by
    first
      | exact .inl (by decide)
      | exact .inr (.inl (by decide))
      | exact .inr (.inr (by rw [rdZ_LZ]; decide))
  unfold P
  first
    | (rcases r1 with r1 | r1 | r1 <;> simp [h5, r1, bool01]; done)
    | (simp [h5, bool01]; done)
    | (simp [h5] at *; simp_all [bool01]; done)

theorem ran : TT.beq (projL pjB (runA [(17, 17), (-2147483648, 2147483647), (-2147483648, 2147483647)] 3 [.int .i64 (.c 17), .int .i32 (.v 1), .int .i32 (.v 2)] ⟨[], []⟩)) tree = true := by kernel_rfl
theorem fineT : (TT.fine (cxOf 2 [(17, 17), (-2147483648, 2147483647), (-2147483648, 2147483647)] [⟨[.int .i64], .v 3, .c 43, .c 43, some 0⟩]) 1000 [] tree && (cxOf 2 [(17, 17), (-2147483648, 2147483647), (-2147483648, 2147483647)] [⟨[.int .i64], .v 3, .c 43, .c 43, some 0⟩]).okB 1000 && SV.vbL 1000 [.int .i64 (.c 17), .int .i32 (.v 1), .int .i32 (.v 2)] && TT.tidy (cxOf 2 [(17, 17), (-2147483648, 2147483647), (-2147483648, 2147483647)] [⟨[.int .i64], .v 3, .c 43, .c 43, some 0⟩]) [] tree) = true := by kernel_rfl
theorem walk (a0 a1 a2 : Int) (w0 : (Lit.int .i64 a0).wf = true) (w1 : (Lit.int .i32 a1).wf = true) (w2 : (Lit.int .i32 a2).wf = true) (w : World) (t0 : Lib.TabIs Tryz.prog w "astrolabe/ops.costs" .i64 tab0) (hc : 17 ≤ a0 ∧ a0 ≤ 17) :
    Calls Tryz.prog 3 #[.int .i64 a0, .int .i32 a1, .int .i32 a2] w fun e w' => e = .returned (.bool true) ∧ Below w.heap.size w w' :=
  lawT_of (runA_ok [(17, 17), (-2147483648, 2147483647), (-2147483648, 2147483647)]) (ρ := envR [a0, a1, a2, LZ tab0] [tabRo 0 .i64 tab0]) (envR_ok (cx := cxOf 2 [(17, 17), (-2147483648, 2147483647), (-2147483648, 2147483647)] [⟨[.int .i64], .v 3, .c 43, .c 43, some 0⟩]) rfl rfl (bnd_cons hc (bnd_cons (wf_bd w1) (bnd_cons (wf_bd w2) (bnd_nil _)))) ⟨⟨rfl, rfl, rfl, rfl, (fun h => by cases h), fun g h => by cases h; rfl⟩, trivial⟩) (f := 3) (args := [.int .i64 (.c 17), .int .i32 (.v 1), .int .i32 (.v 2)]) (t := tree) ran fineT
    (by rw [plain]; exact holds a0 a1 a2 hc.1 hc.2 (wf_bd w1).1 (wf_bd w1).2 (wf_bd w2).1 (wf_bd w2).2) (roOk_of ⟨tabRo_at t0 tabG0 tabW0, trivial⟩) (by obtain rfl : a0 = 17 := (by omega); rfl)

end c17

namespace c18
def tree : TT (List E) :=
(.br (.b .eq .i64 (.v 2) (.c 0))
  (.br (.b .eq .i64 (.w .i64 (.f 13 (.v 3) (.c 17) (.c 0))) (.c 3))
  (.leaf [(.b .eq .i64 (.w .i64 (.b .padd .i64 (.w .i64 (.f 13 (.v 3) (.c 21) (.c 0))) (.c 3))) (.c 5))])
  (.leaf [(.c 0)]))
  (.br (.b .eq .i64 (.w .i64 (.f 13 (.v 3) (.c 17) (.c 0))) (.c 3))
  (.leaf [(.b .eq .i64 (.w .i64 (.b .padd .i64 (.w .i64 (.f 13 (.v 3) (.c 21) (.c 0))) (.c 3))) (.c 5))])
  (.leaf [(.c 0)])))

def P (a0 a1 a2 a3 : Int) : Prop :=
 (((bool01 (a2 == 0)) ≠ 0 →
  (((bool01 ((IntKind.wrap .i64 (rdZ a3 17)) == 3)) ≠ 0 →
   ((bool01 ((IntKind.wrap .i64 ((IntKind.wrap .i64 (rdZ a3 21)) + 3)) == 5)) : Int) ≠ 0) ∧ ((bool01 ((IntKind.wrap .i64 (rdZ a3 17)) == 3)) = 0 →
   (0 : Int) ≠ 0))) ∧ ((bool01 (a2 == 0)) = 0 →
  (((bool01 ((IntKind.wrap .i64 (rdZ a3 17)) == 3)) ≠ 0 →
   ((bool01 ((IntKind.wrap .i64 ((IntKind.wrap .i64 (rdZ a3 21)) + 3)) == 5)) : Int) ≠ 0) ∧ ((bool01 ((IntKind.wrap .i64 (rdZ a3 17)) == 3)) = 0 →
   (0 : Int) ≠ 0))))

theorem plain (a0 a1 a2 a3 : Int) (ro : List RO) : TT.hdP (cxOf 2 [(18, 18), (-2147483648, 2147483647), (-2147483648, 2147483647)] [⟨[.int .i64], .v 3, .c 43, .c 43, some 0⟩]) isOne tree (envR [a0, a1, a2, a3] ro) = P a0 a1 a2 a3 := by kernel_rfl

theorem holds (a0 a1 a2 : Int) (l0 : 18 ≤ a0) (u0 : a0 ≤ 18) (l1 : -2147483648 ≤ a1) (u1 : a1 ≤ 2147483647) (l2 : -2147483648 ≤ a2) (u2 : a2 ≤ 2147483647) : P a0 a1 a2 (LZ tab0) := by
  have h5 : (IntKind.wrap .i64 ((IntKind.wrap .i64 (rdZ (LZ tab0) 21)) + 3)) = 5 := by rw [rdZ_LZ]; decide
  have r1 : 18 < 1 ∨ 43 < 18 ∨ IntKind.wrap .i64 (rdZ (LZ tab0) (17)) = 3 := by
    first
      | exact .inl (by decide)
      | exact .inr (.inl (by decide))
      | exact .inr (.inr (by rw [rdZ_LZ]; decide))
  unfold P
  first
    | (rcases r1 with r1 | r1 | r1 <;> simp [h5, r1, bool01]; done)
    | (simp [h5, bool01]; done)
    | (simp [h5] at *; simp_all [bool01]; done)

theorem ran : TT.beq (projL pjB (runA [(18, 18), (-2147483648, 2147483647), (-2147483648, 2147483647)] 3 [.int .i64 (.c 18), .int .i32 (.v 1), .int .i32 (.v 2)] ⟨[], []⟩)) tree = true := by kernel_rfl
theorem fineT : (TT.fine (cxOf 2 [(18, 18), (-2147483648, 2147483647), (-2147483648, 2147483647)] [⟨[.int .i64], .v 3, .c 43, .c 43, some 0⟩]) 1000 [] tree && (cxOf 2 [(18, 18), (-2147483648, 2147483647), (-2147483648, 2147483647)] [⟨[.int .i64], .v 3, .c 43, .c 43, some 0⟩]).okB 1000 && SV.vbL 1000 [.int .i64 (.c 18), .int .i32 (.v 1), .int .i32 (.v 2)] && TT.tidy (cxOf 2 [(18, 18), (-2147483648, 2147483647), (-2147483648, 2147483647)] [⟨[.int .i64], .v 3, .c 43, .c 43, some 0⟩]) [] tree) = true := by kernel_rfl
theorem walk (a0 a1 a2 : Int) (w0 : (Lit.int .i64 a0).wf = true) (w1 : (Lit.int .i32 a1).wf = true) (w2 : (Lit.int .i32 a2).wf = true) (w : World) (t0 : Lib.TabIs Tryz.prog w "astrolabe/ops.costs" .i64 tab0) (hc : 18 ≤ a0 ∧ a0 ≤ 18) :
    Calls Tryz.prog 3 #[.int .i64 a0, .int .i32 a1, .int .i32 a2] w fun e w' => e = .returned (.bool true) ∧ Below w.heap.size w w' :=
  lawT_of (runA_ok [(18, 18), (-2147483648, 2147483647), (-2147483648, 2147483647)]) (ρ := envR [a0, a1, a2, LZ tab0] [tabRo 0 .i64 tab0]) (envR_ok (cx := cxOf 2 [(18, 18), (-2147483648, 2147483647), (-2147483648, 2147483647)] [⟨[.int .i64], .v 3, .c 43, .c 43, some 0⟩]) rfl rfl (bnd_cons hc (bnd_cons (wf_bd w1) (bnd_cons (wf_bd w2) (bnd_nil _)))) ⟨⟨rfl, rfl, rfl, rfl, (fun h => by cases h), fun g h => by cases h; rfl⟩, trivial⟩) (f := 3) (args := [.int .i64 (.c 18), .int .i32 (.v 1), .int .i32 (.v 2)]) (t := tree) ran fineT
    (by rw [plain]; exact holds a0 a1 a2 hc.1 hc.2 (wf_bd w1).1 (wf_bd w1).2 (wf_bd w2).1 (wf_bd w2).2) (roOk_of ⟨tabRo_at t0 tabG0 tabW0, trivial⟩) (by obtain rfl : a0 = 18 := (by omega); rfl)

end c18

namespace c19
def tree : TT (List E) :=
(.br (.b .eq .i64 (.v 2) (.c 0))
  (.br (.b .lt .i64 (.b .rem .i64 (.b .pmul .i64 (.v 1) (.v 2)) (.c 4294967296)) (.c 0))
  (.br (.b .eq .i64 (.b .shr .i64 (.b .pmul .i64 (.v 1) (.v 2)) (.c 32)) (.w .i32 (.b .quo .i64 (.b .psub .i64 (.b .pmul .i64 (.v 1) (.v 2)) (.b .padd .i64 (.b .rem .i64 (.b .pmul .i64 (.v 1) (.v 2)) (.c 4294967296)) (.c 4294967296))) (.c 4294967296))))
  (.br (.b .eq .i64 (.w .i64 (.f 13 (.v 3) (.c 18) (.c 0))) (.c 3))
  (.leaf [(.b .eq .i64 (.w .i64 (.b .padd .i64 (.w .i64 (.f 13 (.v 3) (.c 21) (.c 0))) (.c 3))) (.c 5))])
  (.leaf [(.c 0)]))
  (.leaf [(.c 0)]))
  (.br (.b .eq .i64 (.b .shr .i64 (.b .pmul .i64 (.v 1) (.v 2)) (.c 32)) (.w .i32 (.b .quo .i64 (.b .psub .i64 (.b .pmul .i64 (.v 1) (.v 2)) (.b .rem .i64 (.b .pmul .i64 (.v 1) (.v 2)) (.c 4294967296))) (.c 4294967296))))
  (.br (.b .eq .i64 (.w .i64 (.f 13 (.v 3) (.c 18) (.c 0))) (.c 3))
  (.leaf [(.b .eq .i64 (.w .i64 (.b .padd .i64 (.w .i64 (.f 13 (.v 3) (.c 21) (.c 0))) (.c 3))) (.c 5))])
  (.leaf [(.c 0)]))
  (.leaf [(.c 0)])))
  (.br (.b .lt .i64 (.b .rem .i64 (.b .pmul .i64 (.v 1) (.v 2)) (.c 4294967296)) (.c 0))
  (.br (.b .eq .i64 (.b .shr .i64 (.b .pmul .i64 (.v 1) (.v 2)) (.c 32)) (.w .i32 (.b .quo .i64 (.b .psub .i64 (.b .pmul .i64 (.v 1) (.v 2)) (.b .padd .i64 (.b .rem .i64 (.b .pmul .i64 (.v 1) (.v 2)) (.c 4294967296)) (.c 4294967296))) (.c 4294967296))))
  (.br (.b .eq .i64 (.w .i64 (.f 13 (.v 3) (.c 18) (.c 0))) (.c 3))
  (.leaf [(.b .eq .i64 (.w .i64 (.b .padd .i64 (.w .i64 (.f 13 (.v 3) (.c 21) (.c 0))) (.c 3))) (.c 5))])
  (.leaf [(.c 0)]))
  (.leaf [(.c 0)]))
  (.br (.b .eq .i64 (.b .shr .i64 (.b .pmul .i64 (.v 1) (.v 2)) (.c 32)) (.w .i32 (.b .quo .i64 (.b .psub .i64 (.b .pmul .i64 (.v 1) (.v 2)) (.b .rem .i64 (.b .pmul .i64 (.v 1) (.v 2)) (.c 4294967296))) (.c 4294967296))))
  (.br (.b .eq .i64 (.w .i64 (.f 13 (.v 3) (.c 18) (.c 0))) (.c 3))
  (.leaf [(.b .eq .i64 (.w .i64 (.b .padd .i64 (.w .i64 (.f 13 (.v 3) (.c 21) (.c 0))) (.c 3))) (.c 5))])
  (.leaf [(.c 0)]))
  (.leaf [(.c 0)]))))

def P (a0 a1 a2 a3 : Int) : Prop :=
 (((bool01 (a2 == 0)) ≠ 0 →
  (((bool01 (decide ((BO.ev .rem .i64 (a1 * a2) 4294967296) < 0))) ≠ 0 →
   (((bool01 ((shrZ .i64 (a1 * a2) 32) == (IntKind.wrap .i32 (BO.ev .quo .i64 ((a1 * a2) - ((BO.ev .rem .i64 (a1 * a2) 4294967296) + 4294967296)) 4294967296)))) ≠ 0 →
    (((bool01 ((IntKind.wrap .i64 (rdZ a3 18)) == 3)) ≠ 0 →
     ((bool01 ((IntKind.wrap .i64 ((IntKind.wrap .i64 (rdZ a3 21)) + 3)) == 5)) : Int) ≠ 0) ∧ ((bool01 ((IntKind.wrap .i64 (rdZ a3 18)) == 3)) = 0 →
     (0 : Int) ≠ 0))) ∧ ((bool01 ((shrZ .i64 (a1 * a2) 32) == (IntKind.wrap .i32 (BO.ev .quo .i64 ((a1 * a2) - ((BO.ev .rem .i64 (a1 * a2) 4294967296) + 4294967296)) 4294967296)))) = 0 →
    (0 : Int) ≠ 0))) ∧ ((bool01 (decide ((BO.ev .rem .i64 (a1 * a2) 4294967296) < 0))) = 0 →
   (((bool01 ((shrZ .i64 (a1 * a2) 32) == (IntKind.wrap .i32 (BO.ev .quo .i64 ((a1 * a2) - (BO.ev .rem .i64 (a1 * a2) 4294967296)) 4294967296)))) ≠ 0 →
    (((bool01 ((IntKind.wrap .i64 (rdZ a3 18)) == 3)) ≠ 0 →
     ((bool01 ((IntKind.wrap .i64 ((IntKind.wrap .i64 (rdZ a3 21)) + 3)) == 5)) : Int) ≠ 0) ∧ ((bool01 ((IntKind.wrap .i64 (rdZ a3 18)) == 3)) = 0 →
     (0 : Int) ≠ 0))) ∧ ((bool01 ((shrZ .i64 (a1 * a2) 32) == (IntKind.wrap .i32 (BO.ev .quo .i64 ((a1 * a2) - (BO.ev .rem .i64 (a1 * a2) 4294967296)) 4294967296)))) = 0 →
    (0 : Int) ≠ 0))))) ∧ ((bool01 (a2 == 0)) = 0 →
  (((bool01 (decide ((BO.ev .rem .i64 (a1 * a2) 4294967296) < 0))) ≠ 0 →
   (((bool01 ((shrZ .i64 (a1 * a2) 32) == (IntKind.wrap .i32 (BO.ev .quo .i64 ((a1 * a2) - ((BO.ev .rem .i64 (a1 * a2) 4294967296) + 4294967296)) 4294967296)))) ≠ 0 →
    (((bool01 ((IntKind.wrap .i64 (rdZ a3 18)) == 3)) ≠ 0 →
     ((bool01 ((IntKind.wrap .i64 ((IntKind.wrap .i64 (rdZ a3 21)) + 3)) == 5)) : Int) ≠ 0) ∧ ((bool01 ((IntKind.wrap .i64 (rdZ a3 18)) == 3)) = 0 →
     (0 : Int) ≠ 0))) ∧ ((bool01 ((shrZ .i64 (a1 * a2) 32) == (IntKind.wrap .i32 (BO.ev .quo .i64 ((a1 * a2) - ((BO.ev .rem .i64 (a1 * a2) 4294967296) + 4294967296)) 4294967296)))) = 0 →
    (0 : Int) ≠ 0))) ∧ ((bool01 (decide ((BO.ev .rem .i64 (a1 * a2) 4294967296) < 0))) = 0 →
   (((bool01 ((shrZ .i64 (a1 * a2) 32) == (IntKind.wrap .i32 (BO.ev .quo .i64 ((a1 * a2) - (BO.ev .rem .i64 (a1 * a2) 4294967296)) 4294967296)))) ≠ 0 →
    (((bool01 ((IntKind.wrap .i64 (rdZ a3 18)) == 3)) ≠ 0 →
     ((bool01 ((IntKind.wrap .i64 ((IntKind.wrap .i64 (rdZ a3 21)) + 3)) == 5)) : Int) ≠ 0) ∧ ((bool01 ((IntKind.wrap .i64 (rdZ a3 18)) == 3)) = 0 →
     (0 : Int) ≠ 0))) ∧ ((bool01 ((shrZ .i64 (a1 * a2) 32) == (IntKind.wrap .i32 (BO.ev .quo .i64 ((a1 * a2) - (BO.ev .rem .i64 (a1 * a2) 4294967296)) 4294967296)))) = 0 →
    (0 : Int) ≠ 0))))))

theorem plain (a0 a1 a2 a3 : Int) (ro : List RO) : TT.hdP (cxOf 2 [(19, 19), (-2147483648, 2147483647), (-2147483648, 2147483647)] [⟨[.int .i64], .v 3, .c 43, .c 43, some 0⟩]) isOne tree (envR [a0, a1, a2, a3] ro) = P a0 a1 a2 a3 := by kernel_rfl

theorem mulh {p : Int} (h1 : -4611686018427387904 ≤ p) (h2 : p ≤ 4611686018427387904) : shrZ .i64 p 32 = p / 4294967296 := shr_eq (k := .i64) (n := 32) (by decide) p
theorem holds (a0 a1 a2 : Int) (l0 : 19 ≤ a0) (u0 : a0 ≤ 19) (l1 : -2147483648 ≤ a1) (u1 : a1 ≤ 2147483647) (l2 : -2147483648 ≤ a2) (u2 : a2 ≤ 2147483647) : P a0 a1 a2 (LZ tab0) := by
  have h5 : (IntKind.wrap .i64 ((IntKind.wrap .i64 (rdZ (LZ tab0) 21)) + 3)) = 5 := by rw [rdZ_LZ]; decide
  have r1 : IntKind.wrap .i64 (rdZ (LZ tab0) (18)) = 3 := by rw [rdZ_LZ]; decide
  have hp : -4611686016279904256 ≤ a1 * a2 ∧ a1 * a2 ≤ 4611686018427387904 := by
    have m1 : (a1 * a2).natAbs ≤ 2147483648 * 2147483648 := by rw [Int.natAbs_mul]; exact Nat.mul_le_mul (by omega) (by omega)
    constructor
    · rcases Int.lt_or_le 0 a1 with h | h
      · have := Int.mul_le_mul_of_nonneg_left (show (-2147483648 : Int) ≤ a2 by omega) (Int.le_of_lt h); omega
      · rcases Int.lt_or_le 0 a2 with g | g
        · have := Int.mul_le_mul_of_nonneg_right (show (-2147483648 : Int) ≤ a1 by omega) (Int.le_of_lt g); omega
        · have := Int.mul_nonneg_of_nonpos_of_nonpos h g; omega
    · omega
  unfold P
  rw [mulh (by omega) (by omega)]
  generalize a1 * a2 = p at hp
  have hm : BO.ev .rem .i64 p 4294967296 = p.tmod 4294967296 := rfl
  have q1 : p.tmod 4294967296 < 0 → IntKind.wrap .i32 (BO.ev .quo .i64 (p - (p.tmod 4294967296 + 4294967296)) 4294967296) = p / 4294967296 := fun h => by
    have h3 := mod32 p
    rw [if_pos h] at h3
    rw [h3]
    show IntKind.wrap .i32 (IntKind.wrap .i64 ((p - p % 4294967296).tdiv 4294967296)) = _
    rw [exact_div (by decide), wrap_i64 (by omega) (by omega), wi32]; split <;> omega
  have q2 : ¬ p.tmod 4294967296 < 0 → IntKind.wrap .i32 (BO.ev .quo .i64 (p - p.tmod 4294967296) 4294967296) = p / 4294967296 := fun h => by
    have h3 := mod32 p
    rw [if_neg h] at h3
    rw [h3]
    show IntKind.wrap .i32 (IntKind.wrap .i64 ((p - p % 4294967296).tdiv 4294967296)) = _
    rw [exact_div (by decide), wrap_i64 (by omega) (by omega), wi32]; split <;> omega
  simp only [hm]
  by_cases h : p.tmod 4294967296 < 0
  · simp [h5, r1, bool01, h, q1 h]
  · simp [h5, r1, bool01, h, q2 h]

theorem ran : TT.beq (projL pjB (runA [(19, 19), (-2147483648, 2147483647), (-2147483648, 2147483647)] 3 [.int .i64 (.c 19), .int .i32 (.v 1), .int .i32 (.v 2)] ⟨[], []⟩)) tree = true := by kernel_rfl
theorem fineT : (TT.fine (cxOf 2 [(19, 19), (-2147483648, 2147483647), (-2147483648, 2147483647)] [⟨[.int .i64], .v 3, .c 43, .c 43, some 0⟩]) 1000 [] tree && (cxOf 2 [(19, 19), (-2147483648, 2147483647), (-2147483648, 2147483647)] [⟨[.int .i64], .v 3, .c 43, .c 43, some 0⟩]).okB 1000 && SV.vbL 1000 [.int .i64 (.c 19), .int .i32 (.v 1), .int .i32 (.v 2)] && TT.tidy (cxOf 2 [(19, 19), (-2147483648, 2147483647), (-2147483648, 2147483647)] [⟨[.int .i64], .v 3, .c 43, .c 43, some 0⟩]) [] tree) = true := by kernel_rfl
theorem walk (a0 a1 a2 : Int) (w0 : (Lit.int .i64 a0).wf = true) (w1 : (Lit.int .i32 a1).wf = true) (w2 : (Lit.int .i32 a2).wf = true) (w : World) (t0 : Lib.TabIs Tryz.prog w "astrolabe/ops.costs" .i64 tab0) (hc : 19 ≤ a0 ∧ a0 ≤ 19) :
    Calls Tryz.prog 3 #[.int .i64 a0, .int .i32 a1, .int .i32 a2] w fun e w' => e = .returned (.bool true) ∧ Below w.heap.size w w' :=
  lawT_of (runA_ok [(19, 19), (-2147483648, 2147483647), (-2147483648, 2147483647)]) (ρ := envR [a0, a1, a2, LZ tab0] [tabRo 0 .i64 tab0]) (envR_ok (cx := cxOf 2 [(19, 19), (-2147483648, 2147483647), (-2147483648, 2147483647)] [⟨[.int .i64], .v 3, .c 43, .c 43, some 0⟩]) rfl rfl (bnd_cons hc (bnd_cons (wf_bd w1) (bnd_cons (wf_bd w2) (bnd_nil _)))) ⟨⟨rfl, rfl, rfl, rfl, (fun h => by cases h), fun g h => by cases h; rfl⟩, trivial⟩) (f := 3) (args := [.int .i64 (.c 19), .int .i32 (.v 1), .int .i32 (.v 2)]) (t := tree) ran fineT
    (by rw [plain]; exact holds a0 a1 a2 hc.1 hc.2 (wf_bd w1).1 (wf_bd w1).2 (wf_bd w2).1 (wf_bd w2).2) (roOk_of ⟨tabRo_at t0 tabG0 tabW0, trivial⟩) (by obtain rfl : a0 = 19 := (by omega); rfl)

end c19

namespace c20
def tree : TT (List E) :=
(.br (.b .eq .i64 (.v 2) (.c 0))
  (.br (.b .eq .i64 (.b .min .i64 (.b .max .i64 (.b .padd .i64 (.b .shr .i64 (.b .pmul .i64 (.v 1) (.v 2)) (.c 30)) (.b .and .i64 (.b .shr .i64 (.b .pmul .i64 (.v 1) (.v 2)) (.c 29)) (.c 1))) (.c (-2147483648))) (.c 2147483647)) (.f 1 (.v 1) (.v 2) (.c 0)))
  (.br (.b .eq .i64 (.w .i64 (.f 13 (.v 3) (.c 19) (.c 0))) (.c 3))
  (.leaf [(.b .eq .i64 (.w .i64 (.b .padd .i64 (.w .i64 (.f 13 (.v 3) (.c 21) (.c 0))) (.c 3))) (.c 5))])
  (.leaf [(.c 0)]))
  (.leaf [(.c 0)]))
  (.br (.b .eq .i64 (.b .min .i64 (.b .max .i64 (.b .padd .i64 (.b .shr .i64 (.b .pmul .i64 (.v 1) (.v 2)) (.c 30)) (.b .and .i64 (.b .shr .i64 (.b .pmul .i64 (.v 1) (.v 2)) (.c 29)) (.c 1))) (.c (-2147483648))) (.c 2147483647)) (.f 1 (.v 1) (.v 2) (.c 0)))
  (.br (.b .eq .i64 (.w .i64 (.f 13 (.v 3) (.c 19) (.c 0))) (.c 3))
  (.leaf [(.b .eq .i64 (.w .i64 (.b .padd .i64 (.w .i64 (.f 13 (.v 3) (.c 21) (.c 0))) (.c 3))) (.c 5))])
  (.leaf [(.c 0)]))
  (.leaf [(.c 0)])))

def P (a0 a1 a2 a3 : Int) : Prop :=
 (((bool01 (a2 == 0)) ≠ 0 →
  (((bool01 ((sat32 ((shrZ .i64 (a1 * a2) 30) + (band .i64 (shrZ .i64 (a1 * a2) 29) 1))) == (mulqZ a1 a2))) ≠ 0 →
   (((bool01 ((IntKind.wrap .i64 (rdZ a3 19)) == 3)) ≠ 0 →
    ((bool01 ((IntKind.wrap .i64 ((IntKind.wrap .i64 (rdZ a3 21)) + 3)) == 5)) : Int) ≠ 0) ∧ ((bool01 ((IntKind.wrap .i64 (rdZ a3 19)) == 3)) = 0 →
    (0 : Int) ≠ 0))) ∧ ((bool01 ((sat32 ((shrZ .i64 (a1 * a2) 30) + (band .i64 (shrZ .i64 (a1 * a2) 29) 1))) == (mulqZ a1 a2))) = 0 →
   (0 : Int) ≠ 0))) ∧ ((bool01 (a2 == 0)) = 0 →
  (((bool01 ((sat32 ((shrZ .i64 (a1 * a2) 30) + (band .i64 (shrZ .i64 (a1 * a2) 29) 1))) == (mulqZ a1 a2))) ≠ 0 →
   (((bool01 ((IntKind.wrap .i64 (rdZ a3 19)) == 3)) ≠ 0 →
    ((bool01 ((IntKind.wrap .i64 ((IntKind.wrap .i64 (rdZ a3 21)) + 3)) == 5)) : Int) ≠ 0) ∧ ((bool01 ((IntKind.wrap .i64 (rdZ a3 19)) == 3)) = 0 →
    (0 : Int) ≠ 0))) ∧ ((bool01 ((sat32 ((shrZ .i64 (a1 * a2) 30) + (band .i64 (shrZ .i64 (a1 * a2) 29) 1))) == (mulqZ a1 a2))) = 0 →
   (0 : Int) ≠ 0))))

theorem plain (a0 a1 a2 a3 : Int) (ro : List RO) : TT.hdP (cxOf 2 [(20, 20), (-2147483648, 2147483647), (-2147483648, 2147483647)] [⟨[.int .i64], .v 3, .c 43, .c 43, some 0⟩]) isOne tree (envR [a0, a1, a2, a3] ro) = P a0 a1 a2 a3 := by kernel_rfl

theorem holds (a0 a1 a2 : Int) (l0 : 20 ≤ a0) (u0 : a0 ≤ 20) (l1 : -2147483648 ≤ a1) (u1 : a1 ≤ 2147483647) (l2 : -2147483648 ≤ a2) (u2 : a2 ≤ 2147483647) : P a0 a1 a2 (LZ tab0) := by
  have h5 : (IntKind.wrap .i64 ((IntKind.wrap .i64 (rdZ (LZ tab0) 21)) + 3)) = 5 := by rw [rdZ_LZ]; decide
  have r1 : IntKind.wrap .i64 (rdZ (LZ tab0) (19)) = 3 := by rw [rdZ_LZ]; decide
  have e : sat32 (shrZ .i64 (a1 * a2) 30 + band .i64 (shrZ .i64 (a1 * a2) 29) 1) = mulqZ a1 a2 := rfl
  unfold P
  rw [e]
  simp [h5, r1, bool01]

theorem ran : TT.beq (projL pjB (runA [(20, 20), (-2147483648, 2147483647), (-2147483648, 2147483647)] 3 [.int .i64 (.c 20), .int .i32 (.v 1), .int .i32 (.v 2)] ⟨[], []⟩)) tree = true := by kernel_rfl
theorem fineT : (TT.fine (cxOf 2 [(20, 20), (-2147483648, 2147483647), (-2147483648, 2147483647)] [⟨[.int .i64], .v 3, .c 43, .c 43, some 0⟩]) 1000 [] tree && (cxOf 2 [(20, 20), (-2147483648, 2147483647), (-2147483648, 2147483647)] [⟨[.int .i64], .v 3, .c 43, .c 43, some 0⟩]).okB 1000 && SV.vbL 1000 [.int .i64 (.c 20), .int .i32 (.v 1), .int .i32 (.v 2)] && TT.tidy (cxOf 2 [(20, 20), (-2147483648, 2147483647), (-2147483648, 2147483647)] [⟨[.int .i64], .v 3, .c 43, .c 43, some 0⟩]) [] tree) = true := by kernel_rfl
theorem walk (a0 a1 a2 : Int) (w0 : (Lit.int .i64 a0).wf = true) (w1 : (Lit.int .i32 a1).wf = true) (w2 : (Lit.int .i32 a2).wf = true) (w : World) (t0 : Lib.TabIs Tryz.prog w "astrolabe/ops.costs" .i64 tab0) (hc : 20 ≤ a0 ∧ a0 ≤ 20) :
    Calls Tryz.prog 3 #[.int .i64 a0, .int .i32 a1, .int .i32 a2] w fun e w' => e = .returned (.bool true) ∧ Below w.heap.size w w' :=
  lawT_of (runA_ok [(20, 20), (-2147483648, 2147483647), (-2147483648, 2147483647)]) (ρ := envR [a0, a1, a2, LZ tab0] [tabRo 0 .i64 tab0]) (envR_ok (cx := cxOf 2 [(20, 20), (-2147483648, 2147483647), (-2147483648, 2147483647)] [⟨[.int .i64], .v 3, .c 43, .c 43, some 0⟩]) rfl rfl (bnd_cons hc (bnd_cons (wf_bd w1) (bnd_cons (wf_bd w2) (bnd_nil _)))) ⟨⟨rfl, rfl, rfl, rfl, (fun h => by cases h), fun g h => by cases h; rfl⟩, trivial⟩) (f := 3) (args := [.int .i64 (.c 20), .int .i32 (.v 1), .int .i32 (.v 2)]) (t := tree) ran fineT
    (by rw [plain]; exact holds a0 a1 a2 hc.1 hc.2 (wf_bd w1).1 (wf_bd w1).2 (wf_bd w2).1 (wf_bd w2).2) (roOk_of ⟨tabRo_at t0 tabG0 tabW0, trivial⟩) (by obtain rfl : a0 = 20 := (by omega); rfl)

end c20
end Go.Proofs.YtjooaieolphomaaGreatDoor.aluTells
