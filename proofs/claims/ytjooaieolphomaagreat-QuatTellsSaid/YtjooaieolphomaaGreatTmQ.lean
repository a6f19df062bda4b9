/-
  Summaries of functions of numbers, as trees with names, group Q, each by one run of the engine. Printed by program.
-/
import Derived.Test.YtjooaieolphomaaGreatTmR
set_option linter.unusedVariables false
set_option linter.unusedSimpArgs false
namespace Go.Proofs.YtjooaieolphomaaGreat
open Go.Eng Go.RowKit
set_option maxRecDepth 100000
def trQ0 : T SV :=
(.new 1000 (.b .min .i64 (.b .max .i64 (.b .psub .i64 (.f 1 (.v 0) (.v 4) (.c 0)) (.f 1 (.v 1) (.v 5) (.c 0))) (.c (-2147483648))) (.c 2147483647))
  (.new 1001 (.b .min .i64 (.b .max .i64 (.b .psub .i64 (.cl 1000 (-2147483648) 2147483647) (.f 1 (.v 2) (.v 6) (.c 0))) (.c (-2147483648))) (.c 2147483647))
  (.new 1002 (.b .min .i64 (.b .max .i64 (.b .psub .i64 (.cl 1001 (-2147483648) 2147483647) (.f 1 (.v 3) (.v 7) (.c 0))) (.c (-2147483648))) (.c 2147483647))
  (.new 1003 (.b .min .i64 (.b .max .i64 (.b .padd .i64 (.f 1 (.v 0) (.v 5) (.c 0)) (.f 1 (.v 1) (.v 4) (.c 0))) (.c (-2147483648))) (.c 2147483647))
  (.new 1004 (.b .min .i64 (.b .max .i64 (.b .padd .i64 (.cl 1003 (-2147483648) 2147483647) (.f 1 (.v 2) (.v 7) (.c 0))) (.c (-2147483648))) (.c 2147483647))
  (.new 1005 (.b .min .i64 (.b .max .i64 (.b .psub .i64 (.cl 1004 (-2147483648) 2147483647) (.f 1 (.v 3) (.v 6) (.c 0))) (.c (-2147483648))) (.c 2147483647))
  (.new 1006 (.b .min .i64 (.b .max .i64 (.b .psub .i64 (.f 1 (.v 0) (.v 6) (.c 0)) (.f 1 (.v 1) (.v 7) (.c 0))) (.c (-2147483648))) (.c 2147483647))
  (.new 1007 (.b .min .i64 (.b .max .i64 (.b .padd .i64 (.cl 1006 (-2147483648) 2147483647) (.f 1 (.v 2) (.v 4) (.c 0))) (.c (-2147483648))) (.c 2147483647))
  (.new 1008 (.b .min .i64 (.b .max .i64 (.b .padd .i64 (.cl 1007 (-2147483648) 2147483647) (.f 1 (.v 3) (.v 5) (.c 0))) (.c (-2147483648))) (.c 2147483647))
  (.new 1009 (.b .min .i64 (.b .max .i64 (.b .padd .i64 (.f 1 (.v 0) (.v 7) (.c 0)) (.f 1 (.v 1) (.v 6) (.c 0))) (.c (-2147483648))) (.c 2147483647))
  (.new 1010 (.b .min .i64 (.b .max .i64 (.b .psub .i64 (.cl 1009 (-2147483648) 2147483647) (.f 1 (.v 2) (.v 5) (.c 0))) (.c (-2147483648))) (.c 2147483647))
  (.new 1011 (.b .min .i64 (.b .max .i64 (.b .padd .i64 (.cl 1010 (-2147483648) 2147483647) (.f 1 (.v 3) (.v 4) (.c 0))) (.c (-2147483648))) (.c 2147483647))
  (.leaf (.agg [(.int .i32 (.cl 1002 (-2147483648) 2147483647)), (.int .i32 (.cl 1005 (-2147483648) 2147483647)), (.int .i32 (.cl 1008 (-2147483648) 2147483647)), (.int .i32 (.cl 1011 (-2147483648) 2147483647))]))))))))))))))
def trQ1 : T SV :=
(.new 1000 (.b .min .i64 (.b .psub .i64 (.c 0) (.f 1 (.v 1) (.v 4) (.c 0))) (.c 2147483647))
  (.new 1001 (.b .min .i64 (.b .max .i64 (.b .psub .i64 (.cl 1000 (-2147483647) 2147483647) (.f 1 (.v 2) (.v 5) (.c 0))) (.c (-2147483648))) (.c 2147483647))
  (.new 1002 (.b .min .i64 (.b .max .i64 (.b .psub .i64 (.cl 1001 (-2147483648) 2147483647) (.f 1 (.v 3) (.v 6) (.c 0))) (.c (-2147483648))) (.c 2147483647))
  (.new 1003 (.b .min .i64 (.b .max .i64 (.b .padd .i64 (.f 1 (.v 0) (.v 4) (.c 0)) (.f 1 (.v 2) (.v 6) (.c 0))) (.c (-2147483648))) (.c 2147483647))
  (.new 1004 (.b .min .i64 (.b .max .i64 (.b .psub .i64 (.cl 1003 (-2147483648) 2147483647) (.f 1 (.v 3) (.v 5) (.c 0))) (.c (-2147483648))) (.c 2147483647))
  (.new 1005 (.b .min .i64 (.b .max .i64 (.b .psub .i64 (.f 1 (.v 0) (.v 5) (.c 0)) (.f 1 (.v 1) (.v 6) (.c 0))) (.c (-2147483648))) (.c 2147483647))
  (.new 1006 (.b .min .i64 (.b .max .i64 (.b .padd .i64 (.cl 1005 (-2147483648) 2147483647) (.f 1 (.v 3) (.v 4) (.c 0))) (.c (-2147483648))) (.c 2147483647))
  (.new 1007 (.b .min .i64 (.b .max .i64 (.b .padd .i64 (.f 1 (.v 0) (.v 6) (.c 0)) (.f 1 (.v 1) (.v 5) (.c 0))) (.c (-2147483648))) (.c 2147483647))
  (.new 1008 (.b .min .i64 (.b .max .i64 (.b .psub .i64 (.cl 1007 (-2147483648) 2147483647) (.f 1 (.v 2) (.v 4) (.c 0))) (.c (-2147483648))) (.c 2147483647))
  (.leaf (.agg [(.int .i32 (.cl 1002 (-2147483648) 2147483647)), (.int .i32 (.cl 1004 (-2147483648) 2147483647)), (.int .i32 (.cl 1006 (-2147483648) 2147483647)), (.int .i32 (.cl 1008 (-2147483648) 2147483647))])))))))))))
def trQ2 : T SV :=
(.leaf (.agg [(.int .i32 (.v 0)), (.int .i32 (.b .min .i64 (.b .psub .i64 (.c 0) (.v 1)) (.c 2147483647))), (.int .i32 (.b .min .i64 (.b .psub .i64 (.c 0) (.v 2)) (.c 2147483647))), (.int .i32 (.b .min .i64 (.b .psub .i64 (.c 0) (.v 3)) (.c 2147483647)))]))
def trQ3 : T SV :=
(.new 1000 (.b .min .i64 (.b .max .i64 (.b .padd .i64 (.f 1 (.v 0) (.v 0) (.c 0)) (.f 1 (.v 1) (.v 1) (.c 0))) (.c (-2147483648))) (.c 2147483647))
  (.new 1001 (.b .min .i64 (.b .max .i64 (.b .padd .i64 (.cl 1000 (-2147483648) 2147483647) (.f 1 (.v 2) (.v 2) (.c 0))) (.c (-2147483648))) (.c 2147483647))
  (.new 1002 (.b .min .i64 (.b .max .i64 (.b .padd .i64 (.cl 1001 (-2147483648) 2147483647) (.f 1 (.v 3) (.v 3) (.c 0))) (.c (-2147483648))) (.c 2147483647))
  (.leaf (.int .i32 (.cl 1002 (-2147483648) 2147483647))))))
def trQ4 : T SV :=
(.br (.b .lt .i64 (.v 0) (.c (-1342177280)))
  (.leaf (.bool (.c 0)))
  (.br (.b .lt .i64 (.c 1342177280) (.v 0))
  (.leaf (.bool (.c 0)))
  (.br (.b .lt .i64 (.v 1) (.c (-1342177280)))
  (.leaf (.bool (.c 0)))
  (.br (.b .lt .i64 (.c 1342177280) (.v 1))
  (.leaf (.bool (.c 0)))
  (.new 1004 (.w .i64 (.b .padd .i64 (.b .pmul .i64 (.v 0) (.v 0)) (.b .pmul .i64 (.v 1) (.v 1))))
  (.br (.b .lt .i64 (.v 2) (.c (-1342177280)))
  (.leaf (.bool (.c 0)))
  (.br (.b .lt .i64 (.c 1342177280) (.v 2))
  (.leaf (.bool (.c 0)))
  (.new 1007 (.w .i64 (.b .padd .i64 (.cl 1004 (-9223372036854775808) 9223372036854775807) (.b .pmul .i64 (.v 2) (.v 2))))
  (.br (.b .lt .i64 (.v 3) (.c (-1342177280)))
  (.leaf (.bool (.c 0)))
  (.br (.b .lt .i64 (.c 1342177280) (.v 3))
  (.leaf (.bool (.c 0)))
  (.new 1010 (.w .i64 (.b .padd .i64 (.cl 1007 (-9223372036854775808) 9223372036854775807) (.b .pmul .i64 (.v 3) (.v 3))))
  (.br (.b .lt .i64 (.w .i64 (.b .psub .i64 (.cl 1010 (-9223372036854775808) 9223372036854775807) (.c 1152921504606846976))) (.c 68719476736))
  (.leaf (.bool (.b .lt .i64 (.c (-68719476736)) (.w .i64 (.b .psub .i64 (.cl 1010 (-9223372036854775808) 9223372036854775807) (.c 1152921504606846976))))))
  (.leaf (.bool (.c 0)))))))))))))))
def smsQ : List Sm := [
  ⟨63, (.some 72), [.agg [.int .i32 (.v 0), .int .i32 (.v 1), .int .i32 (.v 2), .int .i32 (.v 3)], .agg [.int .i32 (.v 4), .int .i32 (.v 5), .int .i32 (.v 6), .int .i32 (.v 7)]], trQ0⟩,
  ⟨70, (.some 72), [.agg [.int .i32 (.v 0), .int .i32 (.v 1), .int .i32 (.v 2), .int .i32 (.v 3)], .agg [.int .i32 (.v 4), .int .i32 (.v 5), .int .i32 (.v 6)]], trQ1⟩,
  ⟨27, .none, [.agg [.int .i32 (.v 0), .int .i32 (.v 1), .int .i32 (.v 2), .int .i32 (.v 3)]], trQ2⟩,
  ⟨29, .none, [.agg [.int .i32 (.v 0), .int .i32 (.v 1), .int .i32 (.v 2), .int .i32 (.v 3)]], trQ3⟩,
  ⟨71, .none, [.agg [.int .i32 (.v 0), .int .i32 (.v 1), .int .i32 (.v 2), .int .i32 (.v 3)]], trQ4⟩]
theorem tsQ0 (n : Nat) (l : List (Int × Int)) : TreeOk (cxOf n l) ⟨63, (.some 72), [.agg [.int .i32 (.v 0), .int .i32 (.v 1), .int .i32 (.v 2), .int .i32 (.v 3)], .agg [.int .i32 (.v 4), .int .i32 (.v 5), .int .i32 (.v 6), .int .i32 (.v 7)]], trQ0⟩ :=
  tree_n (n := 2) (tree_run (cx := cxOf 2 l) (runOf_ok (smR_ok) 2 (SV.bdsL [.agg [.int .i32 (.v 0), .int .i32 (.v 1), .int .i32 (.v 2), .int .i32 (.v 3)], .agg [.int .i32 (.v 4), .int .i32 (.v 5), .int .i32 (.v 6), .int .i32 (.v 7)]])) (by kernel_rfl))
theorem tsQ1 (n : Nat) (l : List (Int × Int)) : TreeOk (cxOf n l) ⟨70, (.some 72), [.agg [.int .i32 (.v 0), .int .i32 (.v 1), .int .i32 (.v 2), .int .i32 (.v 3)], .agg [.int .i32 (.v 4), .int .i32 (.v 5), .int .i32 (.v 6)]], trQ1⟩ :=
  tree_n (n := 2) (tree_run (cx := cxOf 2 l) (runOf_ok (smR_ok) 2 (SV.bdsL [.agg [.int .i32 (.v 0), .int .i32 (.v 1), .int .i32 (.v 2), .int .i32 (.v 3)], .agg [.int .i32 (.v 4), .int .i32 (.v 5), .int .i32 (.v 6)]])) (by kernel_rfl))
theorem tsQ2 (n : Nat) (l : List (Int × Int)) : TreeOk (cxOf n l) ⟨27, .none, [.agg [.int .i32 (.v 0), .int .i32 (.v 1), .int .i32 (.v 2), .int .i32 (.v 3)]], trQ2⟩ :=
  tree_n (n := 2) (tree_run (cx := cxOf 2 l) (runOf_ok (smR_ok) 2 (SV.bdsL [.agg [.int .i32 (.v 0), .int .i32 (.v 1), .int .i32 (.v 2), .int .i32 (.v 3)]])) (by kernel_rfl))
theorem tsQ3 (n : Nat) (l : List (Int × Int)) : TreeOk (cxOf n l) ⟨29, .none, [.agg [.int .i32 (.v 0), .int .i32 (.v 1), .int .i32 (.v 2), .int .i32 (.v 3)]], trQ3⟩ :=
  tree_n (n := 2) (tree_run (cx := cxOf 2 l) (runOf_ok (smR_ok) 2 (SV.bdsL [.agg [.int .i32 (.v 0), .int .i32 (.v 1), .int .i32 (.v 2), .int .i32 (.v 3)]])) (by kernel_rfl))
theorem tsQ4 (n : Nat) (l : List (Int × Int)) : TreeOk (cxOf n l) ⟨71, .none, [.agg [.int .i32 (.v 0), .int .i32 (.v 1), .int .i32 (.v 2), .int .i32 (.v 3)]], trQ4⟩ :=
  tree_n (n := 2) (tree_run (cx := cxOf 2 l) (runOf_ok (smR_ok) 2 (SV.bdsL [.agg [.int .i32 (.v 0), .int .i32 (.v 1), .int .i32 (.v 2), .int .i32 (.v 3)]])) (by kernel_rfl))
theorem smsQ_ok (n : Nat) (l : List (Int × Int)) : SmsOk (cxOf n l) smsQ := sms_cons (by kernel_rfl) (tsQ0 n l) (sms_cons (by kernel_rfl) (tsQ1 n l) (sms_cons (by kernel_rfl) (tsQ2 n l) (sms_cons (by kernel_rfl) (tsQ3 n l) (sms_cons (by kernel_rfl) (tsQ4 n l) (sms_nil _)))))
noncomputable def smQ (n : Nat) (l : List (Int × Int)) : SM := smOr (smS (cxOf n l) smsQ) (smR n l)
theorem smQ_ok (n : Nat) (l : List (Int × Int)) : SmOk (cxOf n l) (smQ n l) := smOr_ok (smS_ok (smsQ_ok n l)) (smR_ok n l)
end Go.Proofs.YtjooaieolphomaaGreat
