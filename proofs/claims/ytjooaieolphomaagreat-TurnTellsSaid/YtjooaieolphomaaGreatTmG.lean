/-
  The reference's count of leading noughts. Printed by program.
-/
import Derived.Test.YtjooaieolphomaaGreatTmFa
import Derived.Test.YtjooaieolphomaaGreatPlT
set_option linter.unusedVariables false
set_option linter.unusedSimpArgs false
namespace Go.Proofs.YtjooaieolphomaaGreat
open Go.Eng Go.RowKit
theorem clzT (n : Nat) (l : List (Int × Int)) : TmplOk (cxOf n l) 39 .none [.int .i32 (.v 0)] (.int .i32 (.b .psub .i64 (.c 32) (.f 0 (.w .u32 (.v 0)) (.c 0) (.c 0)))) :=
  tmpl_n (n := 0) (tmpl_as (tmpl_one (cx := cxOf 0 l) (res := .int .i32 (mkClz 32)) (runOf_ok smFa_ok 0 (SV.bdsL [.int .i32 (.v 0)])) (by kernel_rfl)) (fun ρ hρ => by
    refine (congrArg (Value.int .i32) (clz_res hρ.hF)).trans ?_
    show _ = Value.int .i32 (32 - ρ.f 0 (IntKind.wrap .u32 (ρ.i 0)) 0 0)
    rw [hρ.hF]
    rfl))
noncomputable def smK (k : Nat) (n : Nat) (l : List (Int × Int)) : SM := smOr (smOf [(77, gBy k)]) (smFa n l)
theorem byT (n : Nat) (l : List (Int × Int)) : ∃ r : E, TmplOk (cxOf n l) 77 .none [.int .i32 (.v 0)] (.int .i64 r) ∧ ∀ (ρ : Env), r.ev ρ = ρ.i 0 % 32 :=
  ⟨.ite (.b .lt .i64 (.b .rem .i64 (.v 0) (.c 32)) (.c 0)) (.b .padd .i64 (.b .rem .i64 (.v 0) (.c 32)) (.c 32)) (.b .rem .i64 (.v 0) (.c 32)), (tmsFa_ok n l _ (List.mem_cons_self)).2, fun ρ => (ite01 _ _ _).trans (mod5 _)⟩
theorem byK_ok (k : Nat) (hk : k ≤ 31) (n : Nat) : ToldOk (cxOf n gam) [(77, gBy k)] := by
  refine told_cons (fun ρ β w args v hρ hg => ?_) (told_nil _)
  unfold gBy at hg
  split at hg
  · rename_i e
    split at hg
    · rename_i he
      cases hg
      have := E.eq_of_beq he
      subst this
      obtain ⟨r, hr, hre⟩ := byT n gam
      have hq := hρ.hi 1 _ rfl
      have hn : (nE k).ev ρ = 32 * ρ.i 1 + k := rfl
      have hρ' : EnvOk { cxOf n gam with Γ := SV.bdsL [.int .i32 (.v 0)] } ⟨fun _ => (nE k).ev ρ, ρ.f, ρ.v⟩ := by
        refine ⟨fun i p hp => ?_, hρ.hf, hρ.hv, hρ.hF⟩
        match i with
        | 0 =>
          cases hp
          simp only [hn]
          show -2147483648 ≤ 32 * ρ.i 1 + (k : Int) ∧ 32 * ρ.i 1 + (k : Int) ≤ 2147483647
          simp only at hq
          omega
        | i + 1 => simp [SV.bdsL, SV.bds] at hp
      have h := hr _ w hρ'
      refine h.mono ?_
      rintro x w' ⟨rfl, hb⟩
      refine ⟨?_, hb⟩
      show Ending.returned (Value.int .i64 (r.ev _)) = Ending.returned (Value.int .i64 (k : Int))
      rw [hre]
      simp only [hn]
      congr 2
      omega
    · cases hg
  · cases hg
theorem smK_ok (k : Nat) (hk : k ≤ 31) (n : Nat) : SmOk (cxOf n gam) (smK k n gam) := smOr_ok (smOf_ok (byK_ok k hk n)) (smFa_ok n gam)
noncomputable def runK (k : Nat) : CF := execFn (cxOf 0 gam) (rtsB rtB) (smK k 0 gam) (fun _ _ => .none) 40 30
theorem runK_ok (k : Nat) (hk : k ≤ 31) : CallOk (cxOf 0 gam) (runK k) := execFn_ok (cxOf_ok 0 gam) rtB_ok (smK_ok k hk 0) (xok_none _) _
def tmsG : List Tm := [⟨39, .none, [.int .i32 (.v 0)], (.int .i32 (.b .psub .i64 (.c 32) (.f 0 (.w .u32 (.v 0)) (.c 0) (.c 0))))⟩]
theorem tmsG_ok (n : Nat) (l : List (Int × Int)) : TmsOk (cxOf n l) tmsG := tms_cons (by kernel_rfl) (clzT n l) (tms_nil _)
noncomputable def smG (n : Nat) (l : List (Int × Int)) : SM := smOr (smOf (toldT (cxOf n l) tmsG)) (smFa n l)
theorem smG_ok (n : Nat) (l : List (Int × Int)) : SmOk (cxOf n l) (smG n l) := smOr_ok (smOf_ok (toldT_ok (tmsG_ok n l))) (smFa_ok n l)
end Go.Proofs.YtjooaieolphomaaGreat
