/-
  Summaries of functions of numbers, as trees with names, group U, each by one run of the engine. Printed by program.
-/
import Derived.Test.YtjooaieolphomaaGreatTmQ
set_option linter.unusedVariables false
set_option linter.unusedSimpArgs false
namespace Go.Proofs.YtjooaieolphomaaGreat
open Go.Eng Go.RowKit
set_option maxRecDepth 100000
def trU0 : T SV :=
(.new 1000 (.b .min .i64 (.b .max .i64 (.b .psub .i64 (.f 1 (.v 0) (.v 4) (.c 0)) (.f 1 (.v 1) (.v 5) (.c 0))) (.c (-2147483648))) (.c 2147483647))
  (.new 1001 (.b .min .i64 (.b .max .i64 (.b .psub .i64 (.cl 1000 (-2147483648) 2147483647) (.f 1 (.v 2) (.v 6) (.c 0))) (.c (-2147483648))) (.c 2147483647))
  (.new 1002 (.b .min .i64 (.b .max .i64 (.b .psub .i64 (.cl 1001 (-2147483648) 2147483647) (.f 1 (.v 3) (.v 7) (.c 0))) (.c (-2147483648))) (.c 2147483647))
  (.new 1003 (.b .min .i64 (.b .max .i64 (.b .padd .i64 (.f 1 (.v 0) (.v 5) (.c 0)) (.f 1 (.v 1) (.v 4) (.c 0))) (.c (-2147483648))) (.c 2147483647))
  (.new 1004 (.b .min .i64 (.b .max .i64 (.b .padd .i64 (.cl 1003 (-2147483648) 2147483647) (.f 1 (.v 2) (.v 7) (.c 0))) (.c (-2147483648))) (.c 2147483647))
  (.new 1005 (.b .min .i64 (.b .max .i64 (.b .psub .i64 (.cl 1004 (-2147483648) 2147483647) (.f 1 (.v 3) (.v 6) (.c 0))) (.c (-2147483648))) (.c 2147483647))
  (.new 1006 (.b .min .i64 (.b .max .i64 (.b .psub .i64 (.f 1 (.v 0) (.v 6) (.c 0)) (.f 1 (.v 1) (.v 7) (.c 0))) (.c (-2147483648))) (.c 2147483647))
  (.new 1007 (.b .min .i64 (.b .max .i64 (.b .padd .i64 (.cl 1006 (-2147483648) 2147483647) (.f 1 (.v 2) (.v 4) (.c 0))) (.c (-2147483648))) (.c 2147483647))
  (.new 1008 (.b .min .i64 (.b .max .i64 (.b .padd .i64 (.cl 1007 (-2147483648) 2147483647) (.f 1 (.v 3) (.v 5) (.c 0))) (.c (-2147483648))) (.c 2147483647))
  (.new 1009 (.b .min .i64 (.b .max .i64 (.b .padd .i64 (.f 1 (.v 0) (.v 7) (.c 0)) (.f 1 (.v 1) (.v 6) (.c 0))) (.c (-2147483648))) (.c 2147483647))
  (.new 1010 (.b .min .i64 (.b .max .i64 (.b .psub .i64 (.cl 1009 (-2147483648) 2147483647) (.f 1 (.v 2) (.v 5) (.c 0))) (.c (-2147483648))) (.c 2147483647))
  (.new 1011 (.b .min .i64 (.b .max .i64 (.b .padd .i64 (.cl 1010 (-2147483648) 2147483647) (.f 1 (.v 3) (.v 4) (.c 0))) (.c (-2147483648))) (.c 2147483647))
  (.leaf (.agg [(.int .i32 (.cl 1002 (-2147483648) 2147483647)), (.int .i32 (.cl 1005 (-2147483648) 2147483647)), (.int .i32 (.cl 1008 (-2147483648) 2147483647)), (.int .i32 (.cl 1011 (-2147483648) 2147483647))]))))))))))))))
def trU1 : T SV :=
(.new 1000 (.b .min .i64 (.b .psub .i64 (.c 0) (.f 1 (.v 1) (.v 4) (.c 0))) (.c 2147483647))
  (.new 1001 (.b .min .i64 (.b .max .i64 (.b .psub .i64 (.cl 1000 (-2147483647) 2147483647) (.f 1 (.v 2) (.v 5) (.c 0))) (.c (-2147483648))) (.c 2147483647))
  (.new 1002 (.b .min .i64 (.b .max .i64 (.b .psub .i64 (.cl 1001 (-2147483648) 2147483647) (.f 1 (.v 3) (.v 6) (.c 0))) (.c (-2147483648))) (.c 2147483647))
  (.new 1003 (.b .min .i64 (.b .max .i64 (.b .padd .i64 (.f 1 (.v 0) (.v 4) (.c 0)) (.f 1 (.v 2) (.v 6) (.c 0))) (.c (-2147483648))) (.c 2147483647))
  (.new 1004 (.b .min .i64 (.b .max .i64 (.b .psub .i64 (.cl 1003 (-2147483648) 2147483647) (.f 1 (.v 3) (.v 5) (.c 0))) (.c (-2147483648))) (.c 2147483647))
  (.new 1005 (.b .min .i64 (.b .max .i64 (.b .psub .i64 (.f 1 (.v 0) (.v 5) (.c 0)) (.f 1 (.v 1) (.v 6) (.c 0))) (.c (-2147483648))) (.c 2147483647))
  (.new 1006 (.b .min .i64 (.b .max .i64 (.b .padd .i64 (.cl 1005 (-2147483648) 2147483647) (.f 1 (.v 3) (.v 4) (.c 0))) (.c (-2147483648))) (.c 2147483647))
  (.new 1007 (.b .min .i64 (.b .max .i64 (.b .padd .i64 (.f 1 (.v 0) (.v 6) (.c 0)) (.f 1 (.v 1) (.v 5) (.c 0))) (.c (-2147483648))) (.c 2147483647))
  (.new 1008 (.b .min .i64 (.b .max .i64 (.b .psub .i64 (.cl 1007 (-2147483648) 2147483647) (.f 1 (.v 2) (.v 4) (.c 0))) (.c (-2147483648))) (.c 2147483647))
  (.leaf (.agg [(.int .i32 (.cl 1002 (-2147483648) 2147483647)), (.int .i32 (.cl 1004 (-2147483648) 2147483647)), (.int .i32 (.cl 1006 (-2147483648) 2147483647)), (.int .i32 (.cl 1008 (-2147483648) 2147483647))])))))))))))
def trU2 : T SV :=
(.new 1000 (.b .min .i64 (.b .max .i64 (.b .padd .i64 (.f 1 (.v 0) (.v 0) (.c 0)) (.f 1 (.v 1) (.v 1) (.c 0))) (.c (-2147483648))) (.c 2147483647))
  (.new 1001 (.b .min .i64 (.b .max .i64 (.b .padd .i64 (.cl 1000 (-2147483648) 2147483647) (.f 1 (.v 2) (.v 2) (.c 0))) (.c (-2147483648))) (.c 2147483647))
  (.new 1002 (.b .min .i64 (.b .max .i64 (.b .padd .i64 (.cl 1001 (-2147483648) 2147483647) (.f 1 (.v 3) (.v 3) (.c 0))) (.c (-2147483648))) (.c 2147483647))
  (.new 1003 (.b .psub .i64 (.c 32) (.f 0 (.w .u32 (.cl 1002 (-2147483648) 2147483647)) (.c 0) (.c 0)))
  (.new 1004 (.b .shr .u32 (.b .shl .u32 (.w .u32 (.cl 1002 (-2147483648) 2147483647)) (.b .and .i32 (.b .and .i32 (.cl 1003 0 32) (.c 30)) (.c 31))) (.c 2))
  (.new 1005 (.b .min .i64 (.b .psub .i64 (.c 1184766729) (.f 1 (.c 715827883) (.cl 1004 0 1073741823) (.c 0))) (.c 2147483647))
  (.new 1006 (.w .i32 (.b .shl .u32 (.w .u32 (.f 1 (.cl 1004 0 1073741823) (.f 1 (.cl 1005 (-962716918) 2147483647) (.cl 1005 (-962716918) 2147483647) (.c 0)) (.c 0))) (.c 2)))
  (.new 1007 (.f 1 (.cl 1005 (-962716918) 2147483647) (.b .min .i64 (.b .psub .i64 (.c 1073741824) (.cl 1006 (-2147483648) 2147483647)) (.c 2147483647)) (.c 0))
  (.new 1008 (.b .min .i64 (.b .padd .i64 (.cl 1005 (-962716918) 2147483647) (.b .shr .i32 (.cl 1007 (-2147483648) 2147483647) (.c 1))) (.c 2147483647))
  (.new 1009 (.w .i32 (.b .shl .u32 (.w .u32 (.f 1 (.cl 1004 0 1073741823) (.f 1 (.cl 1008 (-2036458742) 2147483647) (.cl 1008 (-2036458742) 2147483647) (.c 0)) (.c 0))) (.c 2)))
  (.new 1010 (.f 1 (.cl 1008 (-2036458742) 2147483647) (.b .min .i64 (.b .psub .i64 (.c 1073741824) (.cl 1009 (-2147483648) 2147483647)) (.c 2147483647)) (.c 0))
  (.new 1011 (.b .min .i64 (.b .max .i64 (.b .padd .i64 (.cl 1008 (-2036458742) 2147483647) (.b .shr .i32 (.cl 1010 (-2147483648) 2147483647) (.c 1))) (.c (-2147483648))) (.c 2147483647))
  (.new 1012 (.w .i32 (.b .shl .u32 (.w .u32 (.f 1 (.cl 1004 0 1073741823) (.f 1 (.cl 1011 (-2147483648) 2147483647) (.cl 1011 (-2147483648) 2147483647) (.c 0)) (.c 0))) (.c 2)))
  (.new 1013 (.f 1 (.cl 1011 (-2147483648) 2147483647) (.b .min .i64 (.b .psub .i64 (.c 1073741824) (.cl 1012 (-2147483648) 2147483647)) (.c 2147483647)) (.c 0))
  (.new 1014 (.b .min .i64 (.b .max .i64 (.b .padd .i64 (.cl 1011 (-2147483648) 2147483647) (.b .shr .i32 (.cl 1013 (-2147483648) 2147483647) (.c 1))) (.c (-2147483648))) (.c 2147483647))
  (.new 1015 (.w .i32 (.b .shl .u32 (.w .u32 (.f 1 (.cl 1004 0 1073741823) (.f 1 (.cl 1014 (-2147483648) 2147483647) (.cl 1014 (-2147483648) 2147483647) (.c 0)) (.c 0))) (.c 2)))
  (.new 1016 (.f 1 (.cl 1014 (-2147483648) 2147483647) (.b .min .i64 (.b .psub .i64 (.c 1073741824) (.cl 1015 (-2147483648) 2147483647)) (.c 2147483647)) (.c 0))
  (.new 1017 (.b .min .i64 (.b .max .i64 (.b .padd .i64 (.cl 1014 (-2147483648) 2147483647) (.b .shr .i32 (.cl 1016 (-2147483648) 2147483647) (.c 1))) (.c (-2147483648))) (.c 2147483647))
  (.new 1018 (.w .i32 (.b .shl .u32 (.w .u32 (.f 1 (.v 0) (.cl 1017 (-2147483648) 2147483647) (.c 0))) (.b .and .i32 (.b .shr .u32 (.b .and .i32 (.cl 1003 0 32) (.c 30)) (.c 1)) (.c 31))))
  (.new 1019 (.w .i32 (.b .shl .u32 (.w .u32 (.f 1 (.v 1) (.cl 1017 (-2147483648) 2147483647) (.c 0))) (.b .and .i32 (.b .shr .u32 (.b .and .i32 (.cl 1003 0 32) (.c 30)) (.c 1)) (.c 31))))
  (.new 1020 (.w .i32 (.b .shl .u32 (.w .u32 (.f 1 (.v 2) (.cl 1017 (-2147483648) 2147483647) (.c 0))) (.b .and .i32 (.b .shr .u32 (.b .and .i32 (.cl 1003 0 32) (.c 30)) (.c 1)) (.c 31))))
  (.new 1021 (.w .i32 (.b .shl .u32 (.w .u32 (.f 1 (.v 3) (.cl 1017 (-2147483648) 2147483647) (.c 0))) (.b .and .i32 (.b .shr .u32 (.b .and .i32 (.cl 1003 0 32) (.c 30)) (.c 1)) (.c 31))))
  (.leaf (.agg [(.int .i32 (.cl 1018 (-2147483648) 2147483647)), (.int .i32 (.cl 1019 (-2147483648) 2147483647)), (.int .i32 (.cl 1020 (-2147483648) 2147483647)), (.int .i32 (.cl 1021 (-2147483648) 2147483647))]))))))))))))))))))))))))
def smsU : List Sm := [
  ⟨25, .none, [.agg [.int .i32 (.v 0), .int .i32 (.v 1), .int .i32 (.v 2), .int .i32 (.v 3)], .agg [.int .i32 (.v 4), .int .i32 (.v 5), .int .i32 (.v 6), .int .i32 (.v 7)]], trU0⟩,
  ⟨33, .none, [.agg [.int .i32 (.v 0), .int .i32 (.v 1), .int .i32 (.v 2), .int .i32 (.v 3)], .agg [.int .i32 (.v 4), .int .i32 (.v 5), .int .i32 (.v 6)]], trU1⟩,
  ⟨31, .none, [.agg [.int .i32 (.v 0), .int .i32 (.v 1), .int .i32 (.v 2), .int .i32 (.v 3)]], trU2⟩]
theorem tsU0 (n : Nat) (l : List (Int × Int)) : TreeOk (cxOf n l) ⟨25, .none, [.agg [.int .i32 (.v 0), .int .i32 (.v 1), .int .i32 (.v 2), .int .i32 (.v 3)], .agg [.int .i32 (.v 4), .int .i32 (.v 5), .int .i32 (.v 6), .int .i32 (.v 7)]], trU0⟩ :=
  tree_n (n := 2) (tree_run (cx := cxOf 2 l) (runOf_ok (smQ_ok) 2 (SV.bdsL [.agg [.int .i32 (.v 0), .int .i32 (.v 1), .int .i32 (.v 2), .int .i32 (.v 3)], .agg [.int .i32 (.v 4), .int .i32 (.v 5), .int .i32 (.v 6), .int .i32 (.v 7)]])) (by kernel_rfl))
theorem tsU1 (n : Nat) (l : List (Int × Int)) : TreeOk (cxOf n l) ⟨33, .none, [.agg [.int .i32 (.v 0), .int .i32 (.v 1), .int .i32 (.v 2), .int .i32 (.v 3)], .agg [.int .i32 (.v 4), .int .i32 (.v 5), .int .i32 (.v 6)]], trU1⟩ :=
  tree_n (n := 2) (tree_run (cx := cxOf 2 l) (runOf_ok (smQ_ok) 2 (SV.bdsL [.agg [.int .i32 (.v 0), .int .i32 (.v 1), .int .i32 (.v 2), .int .i32 (.v 3)], .agg [.int .i32 (.v 4), .int .i32 (.v 5), .int .i32 (.v 6)]])) (by kernel_rfl))
theorem tsU2 (n : Nat) (l : List (Int × Int)) : TreeOk (cxOf n l) ⟨31, .none, [.agg [.int .i32 (.v 0), .int .i32 (.v 1), .int .i32 (.v 2), .int .i32 (.v 3)]], trU2⟩ :=
  tree_n (n := 2) (tree_run (cx := cxOf 2 l) (runOf_ok (smQ_ok) 2 (SV.bdsL [.agg [.int .i32 (.v 0), .int .i32 (.v 1), .int .i32 (.v 2), .int .i32 (.v 3)]])) (by kernel_rfl))
theorem smsU_ok (n : Nat) (l : List (Int × Int)) : SmsOk (cxOf n l) smsU := sms_cons (by kernel_rfl) (tsU0 n l) (sms_cons (by kernel_rfl) (tsU1 n l) (sms_cons (by kernel_rfl) (tsU2 n l) (sms_nil _)))
noncomputable def smU (n : Nat) (l : List (Int × Int)) : SM := smOr (smS (cxOf n l) smsU) (smQ n l)
theorem smU_ok (n : Nat) (l : List (Int × Int)) : SmOk (cxOf n l) (smU n l) := smOr_ok (smS_ok (smsU_ok n l)) (smQ_ok n l)
end Go.Proofs.YtjooaieolphomaaGreat
