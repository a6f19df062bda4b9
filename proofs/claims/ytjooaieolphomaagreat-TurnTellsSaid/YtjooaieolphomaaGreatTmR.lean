/-
  Summaries of functions of numbers, as trees with names, group R, each by one run of the engine. Printed by program.
-/
import Derived.Test.YtjooaieolphomaaGreatTmV
set_option linter.unusedVariables false
set_option linter.unusedSimpArgs false
namespace Go.Proofs.YtjooaieolphomaaGreat
open Go.Eng Go.RowKit
set_option maxRecDepth 100000
def trR0 : T SV :=
(.new 1000 (.b .psub .i64 (.c 32) (.f 0 (.w .u32 (.v 0)) (.c 0) (.c 0)))
  (.new 1001 (.b .shl .u32 (.w .u32 (.v 0)) (.b .and .i32 (.b .and .i32 (.cl 1000 0 32) (.c 30)) (.c 31)))
  (.leaf (.tup [(.int .i32 (.b .shr .u32 (.cl 1001 0 4294967295) (.c 2))), (.int .i32 (.b .shr .i32 (.b .and .i32 (.cl 1000 0 32) (.c 30)) (.c 1)))]))))
def trR1 : T SV :=
(.new 1000 (.b .psub .i64 (.c 32) (.f 0 (.w .u32 (.v 0)) (.c 0) (.c 0)))
  (.new 1001 (.b .shr .u32 (.b .shl .u32 (.w .u32 (.v 0)) (.b .and .i32 (.b .and .i32 (.cl 1000 0 32) (.c 30)) (.c 31))) (.c 2))
  (.new 1002 (.b .min .i64 (.b .psub .i64 (.c 1184766729) (.f 1 (.c 715827883) (.cl 1001 0 1073741823) (.c 0))) (.c 2147483647))
  (.new 1003 (.w .i32 (.b .shl .u32 (.w .u32 (.f 1 (.cl 1001 0 1073741823) (.f 1 (.cl 1002 (-962716918) 2147483647) (.cl 1002 (-962716918) 2147483647) (.c 0)) (.c 0))) (.c 2)))
  (.new 1004 (.f 1 (.cl 1002 (-962716918) 2147483647) (.b .min .i64 (.b .psub .i64 (.c 1073741824) (.cl 1003 (-2147483648) 2147483647)) (.c 2147483647)) (.c 0))
  (.new 1005 (.b .min .i64 (.b .padd .i64 (.cl 1002 (-962716918) 2147483647) (.b .shr .i32 (.cl 1004 (-2147483648) 2147483647) (.c 1))) (.c 2147483647))
  (.new 1006 (.w .i32 (.b .shl .u32 (.w .u32 (.f 1 (.cl 1001 0 1073741823) (.f 1 (.cl 1005 (-2036458742) 2147483647) (.cl 1005 (-2036458742) 2147483647) (.c 0)) (.c 0))) (.c 2)))
  (.new 1007 (.f 1 (.cl 1005 (-2036458742) 2147483647) (.b .min .i64 (.b .psub .i64 (.c 1073741824) (.cl 1006 (-2147483648) 2147483647)) (.c 2147483647)) (.c 0))
  (.new 1008 (.b .min .i64 (.b .max .i64 (.b .padd .i64 (.cl 1005 (-2036458742) 2147483647) (.b .shr .i32 (.cl 1007 (-2147483648) 2147483647) (.c 1))) (.c (-2147483648))) (.c 2147483647))
  (.new 1009 (.w .i32 (.b .shl .u32 (.w .u32 (.f 1 (.cl 1001 0 1073741823) (.f 1 (.cl 1008 (-2147483648) 2147483647) (.cl 1008 (-2147483648) 2147483647) (.c 0)) (.c 0))) (.c 2)))
  (.new 1010 (.f 1 (.cl 1008 (-2147483648) 2147483647) (.b .min .i64 (.b .psub .i64 (.c 1073741824) (.cl 1009 (-2147483648) 2147483647)) (.c 2147483647)) (.c 0))
  (.new 1011 (.b .min .i64 (.b .max .i64 (.b .padd .i64 (.cl 1008 (-2147483648) 2147483647) (.b .shr .i32 (.cl 1010 (-2147483648) 2147483647) (.c 1))) (.c (-2147483648))) (.c 2147483647))
  (.new 1012 (.w .i32 (.b .shl .u32 (.w .u32 (.f 1 (.cl 1001 0 1073741823) (.f 1 (.cl 1011 (-2147483648) 2147483647) (.cl 1011 (-2147483648) 2147483647) (.c 0)) (.c 0))) (.c 2)))
  (.new 1013 (.f 1 (.cl 1011 (-2147483648) 2147483647) (.b .min .i64 (.b .psub .i64 (.c 1073741824) (.cl 1012 (-2147483648) 2147483647)) (.c 2147483647)) (.c 0))
  (.new 1014 (.b .min .i64 (.b .max .i64 (.b .padd .i64 (.cl 1011 (-2147483648) 2147483647) (.b .shr .i32 (.cl 1013 (-2147483648) 2147483647) (.c 1))) (.c (-2147483648))) (.c 2147483647))
  (.leaf (.tup [(.int .i32 (.cl 1014 (-2147483648) 2147483647)), (.int .i32 (.b .shr .u32 (.b .and .i32 (.cl 1000 0 32) (.c 30)) (.c 1)))])))))))))))))))))
def trR2 : T SV :=
(.new 1000 (.b .psub .i64 (.c 32) (.f 0 (.w .u32 (.v 0)) (.c 0) (.c 0)))
  (.new 1001 (.b .shr .u32 (.b .shl .u32 (.w .u32 (.v 0)) (.b .and .i32 (.b .and .i32 (.cl 1000 0 32) (.c 30)) (.c 31))) (.c 2))
  (.new 1002 (.b .min .i64 (.b .psub .i64 (.c 1184766729) (.f 1 (.c 715827883) (.cl 1001 0 1073741823) (.c 0))) (.c 2147483647))
  (.new 1003 (.w .i32 (.b .shl .u32 (.w .u32 (.f 1 (.cl 1001 0 1073741823) (.f 1 (.cl 1002 (-962716918) 2147483647) (.cl 1002 (-962716918) 2147483647) (.c 0)) (.c 0))) (.c 2)))
  (.new 1004 (.f 1 (.cl 1002 (-962716918) 2147483647) (.b .min .i64 (.b .psub .i64 (.c 1073741824) (.cl 1003 (-2147483648) 2147483647)) (.c 2147483647)) (.c 0))
  (.new 1005 (.b .min .i64 (.b .padd .i64 (.cl 1002 (-962716918) 2147483647) (.b .shr .i32 (.cl 1004 (-2147483648) 2147483647) (.c 1))) (.c 2147483647))
  (.new 1006 (.w .i32 (.b .shl .u32 (.w .u32 (.f 1 (.cl 1001 0 1073741823) (.f 1 (.cl 1005 (-2036458742) 2147483647) (.cl 1005 (-2036458742) 2147483647) (.c 0)) (.c 0))) (.c 2)))
  (.new 1007 (.f 1 (.cl 1005 (-2036458742) 2147483647) (.b .min .i64 (.b .psub .i64 (.c 1073741824) (.cl 1006 (-2147483648) 2147483647)) (.c 2147483647)) (.c 0))
  (.new 1008 (.b .min .i64 (.b .max .i64 (.b .padd .i64 (.cl 1005 (-2036458742) 2147483647) (.b .shr .i32 (.cl 1007 (-2147483648) 2147483647) (.c 1))) (.c (-2147483648))) (.c 2147483647))
  (.new 1009 (.w .i32 (.b .shl .u32 (.w .u32 (.f 1 (.cl 1001 0 1073741823) (.f 1 (.cl 1008 (-2147483648) 2147483647) (.cl 1008 (-2147483648) 2147483647) (.c 0)) (.c 0))) (.c 2)))
  (.new 1010 (.f 1 (.cl 1008 (-2147483648) 2147483647) (.b .min .i64 (.b .psub .i64 (.c 1073741824) (.cl 1009 (-2147483648) 2147483647)) (.c 2147483647)) (.c 0))
  (.new 1011 (.b .min .i64 (.b .max .i64 (.b .padd .i64 (.cl 1008 (-2147483648) 2147483647) (.b .shr .i32 (.cl 1010 (-2147483648) 2147483647) (.c 1))) (.c (-2147483648))) (.c 2147483647))
  (.new 1012 (.w .i32 (.b .shl .u32 (.w .u32 (.f 1 (.cl 1001 0 1073741823) (.f 1 (.cl 1011 (-2147483648) 2147483647) (.cl 1011 (-2147483648) 2147483647) (.c 0)) (.c 0))) (.c 2)))
  (.new 1013 (.f 1 (.cl 1011 (-2147483648) 2147483647) (.b .min .i64 (.b .psub .i64 (.c 1073741824) (.cl 1012 (-2147483648) 2147483647)) (.c 2147483647)) (.c 0))
  (.new 1014 (.b .min .i64 (.b .max .i64 (.b .padd .i64 (.cl 1011 (-2147483648) 2147483647) (.b .shr .i32 (.cl 1013 (-2147483648) 2147483647) (.c 1))) (.c (-2147483648))) (.c 2147483647))
  (.new 1015 (.w .i32 (.b .shl .u32 (.w .u32 (.f 1 (.v 0) (.cl 1014 (-2147483648) 2147483647) (.c 0))) (.b .and .i32 (.b .shr .u32 (.b .and .i32 (.cl 1000 0 32) (.c 30)) (.c 1)) (.c 31))))
  (.leaf (.int .i32 (.cl 1015 (-2147483648) 2147483647)))))))))))))))))))
def smsR : List Sm := [
  ⟨7, .none, [.int .i32 (.v 0)], trR0⟩,
  ⟨9, .none, [.int .i32 (.v 0)], trR1⟩,
  ⟨13, .none, [.int .i32 (.v 0)], trR2⟩]
theorem tsR0 (n : Nat) (l : List (Int × Int)) : TreeOk (cxOf n l) ⟨7, .none, [.int .i32 (.v 0)], trR0⟩ :=
  tree_n (n := 2) (tree_run (cx := cxOf 2 l) (runOf_ok (smV_ok) 2 (SV.bdsL [.int .i32 (.v 0)])) (by kernel_rfl))
theorem tsR1 (n : Nat) (l : List (Int × Int)) : TreeOk (cxOf n l) ⟨9, .none, [.int .i32 (.v 0)], trR1⟩ :=
  tree_n (n := 2) (tree_run (cx := cxOf 2 l) (runOf_ok (smV_ok) 2 (SV.bdsL [.int .i32 (.v 0)])) (by kernel_rfl))
theorem tsR2 (n : Nat) (l : List (Int × Int)) : TreeOk (cxOf n l) ⟨13, .none, [.int .i32 (.v 0)], trR2⟩ :=
  tree_n (n := 2) (tree_run (cx := cxOf 2 l) (runOf_ok (smV_ok) 2 (SV.bdsL [.int .i32 (.v 0)])) (by kernel_rfl))
theorem smsR_ok (n : Nat) (l : List (Int × Int)) : SmsOk (cxOf n l) smsR := sms_cons (by kernel_rfl) (tsR0 n l) (sms_cons (by kernel_rfl) (tsR1 n l) (sms_cons (by kernel_rfl) (tsR2 n l) (sms_nil _)))
noncomputable def smR (n : Nat) (l : List (Int × Int)) : SM := smOr (smS (cxOf n l) smsR) (smV n l)
theorem smR_ok (n : Nat) (l : List (Int × Int)) : SmOk (cxOf n l) (smR n l) := smOr_ok (smS_ok (smsR_ok n l)) (smV_ok n l)
end Go.Proofs.YtjooaieolphomaaGreat
