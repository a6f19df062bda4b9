/-
  What functions of the program answer, as numbers of what they are handed: their runs by the engine, the plain statements behind them. No condition.
-/
import Derived.Test.YtemcjakecoceaaaGreatDoorKb
import Derived.Test.YtemcjakecoceaaaGreatDoorGab
import Derived.Test.YtemcjakecoceaaaGreatDoorGmD
set_option linter.unusedVariables false
set_option linter.unusedSimpArgs false
set_option maxRecDepth 100000
namespace Go.Proofs.YtemcjakecoceaaaGreatDoor
open Go.Eng Go.RowKit
namespace CRShl
def rc : Rc := ⟨110, [none, none], [.int .i32, .int .i32], [], .one, [.int .i32 (.f 63 (.c 9) (.v 0) (.v 1))]⟩
theorem okb : rc.ok = true := by kernel_rfl
noncomputable def us : SMs := fun Γ ins n => smH (cxG n Γ ins) [] (smR (cxG n Γ ins) [CRBits.rc, CROf.rc, CRBy.rc])
theorem us_ok : SMsOk us := fun Γ ins n => smH_ok (tabsG n Γ ins) (rhs_nil _) (smR_ok (tabsG n Γ ins) (rcs_cons CRBits.okb (rc_n CRBits.ok) (rcs_cons CROf.okb (rc_n CROf.ok) (rcs_cons CRBy.okb (rc_n CRBy.ok) (rcs_nil _)))))
def Q0 : E := (.f 79 (.v 1) (.c 0) (.c 0))
def Q1 : E := (.cl 1000 (-4611686018427387904) 4611686018427387904)
def Q2 : E := (.b .psub .i64 Q1 Q0)
def Q3 : E := (tp Q1 (.c 1))
def tree : TT (List E) :=
 (.loop ⟨1000, [some (-4611686018427387904, 4611686018427387904), none], [Q0, (tC (.c 0) (tC (.c 0) (tC (.c 0) (tC (.c 0) (tC (.c 0) (tC (.c 0) (tC (.c 0) (tC (.c 0) (tC (.c 0) (tC (.c 0) (tC (.c 0) (tC (.c 0) (tC (.c 0) (tC (.c 0) (tC (.c 0) (tC (.c 0) (tC (.c 0) (tC (.c 0) (tC (.c 0) (tC (.c 0) (tC (.c 0) (tC (.c 0) (tC (.c 0) (tC (.c 0) (tC (.c 0) (tC (.c 0) (tC (.c 0) (tC (.c 0) (tC (.c 0) (tC (.c 0) (tC (.c 0) (tC (.c 0) (.c 0)))))))))))))))))))))))))))))))))], 1003⟩ (.br (tk Q1 (.c 32)) (.br (tl (.c 0) Q2) (.br (tk Q2 (.c 32)) (.br (tl (.c 0) Q1) (.br (tl Q3 (.c 4611686018427387904)) (.back [Q3, (.f 14 (.v 1001) Q1 (t6 (tR (tC (.f 2 (.v 0) (.c 0) (.c 0)) (tC (.f 2 (.v 0) (.c 1) (.c 0)) (tC (.f 2 (.v 0) (.c 2) (.c 0)) (tC (.f 2 (.v 0) (.c 3) (.c 0)) (tC (.f 2 (.v 0) (.c 4) (.c 0))
 (tC (.f 2 (.v 0) (.c 5) (.c 0)) (tC (.f 2 (.v 0) (.c 6) (.c 0)) (tC (.f 2 (.v 0) (.c 7) (.c 0)) (tC (.f 2 (.v 0) (.c 8) (.c 0)) (tC (.f 2 (.v 0) (.c 9) (.c 0)) (tC (.f 2 (.v 0) (.c 10) (.c 0)) (tC (.f 2 (.v 0) (.c 11) (.c 0)) (tC (.f 2 (.v 0) (.c 12) (.c 0)) (tC (.f 2 (.v 0) (.c 13) (.c 0)) (tC (.f 2 (.v 0) (.c 14) (.c 0)) (tC (.f 2 (.v 0) (.c 15) (.c 0)) (tC (.f 2 (.v 0) (.c 16) (.c 0)) (tC (.f 2 (.v 0) (.c 17) (.c 0)) (tC (.f 2 (.v 0) (.c 18) (.c 0)) (tC (.f 2 (.v 0) (.c 19) (.c 0)) (tC (.f 2 (.v 0) (.c 20) (.c 0)) (tC (.f 2 (.v 0) (.c 21) (.c 0)) (tC (.f 2 (.v 0) (.c 22) (.c 0)) (tC (.f 2 (.v 0) (.c 23) (.c 0)) (tC (.f 2 (.v 0) (.c 24) (.c 0)) (tC (.f 2 (.v 0) (.c 25) (.c 0)) (tC (.f 2 (.v 0) (.c 26) (.c 0)) (tC (.f 2 (.v 0) (.c 27) (.c 0)) (tC (.f 2 (.v 0) (.c 28) (.c 0)) (tC (.f 2
 (.v 0) (.c 29) (.c 0)) (tC (.f 2 (.v 0) (.c 30) (.c 0)) (tC (.f 2 (.v 0) (.c 31) (.c 0)) (.c 0))))))))))))))))))))))))))))))))) Q2)))]) (.bad 303)) (.bad 200)) (.bad 200)) (.bad 200)) (.exit 0)) (.new 1005 (.f 77 (t6 (tR (.v 1001) (.c 0))) (t6 (tR (.v 1001) (.c 1))) (tC (t6 (tR (.v 1001) (.c 2))) (tC (t6 (tR (.v 1001) (.c 3))) (tC (t6 (tR (.v 1001) (.c 4))) (tC (t6 (tR (.v 1001) (.c 5))) (tC (t6 (tR (.v 1001) (.c 6))) (tC (t6 (tR (.v 1001) (.c 7))) (tC (t6 (tR (.v 1001) (.c 8))) (tC (t6 (tR (.v 1001) (.c 9))) (tC (t6 (tR (.v 1001) (.c 10))) (tC (t6 (tR (.v 1001) (.c 11))) (tC (t6 (tR (.v 1001) (.c 12))) (tC (t6 (tR (.v 1001) (.c 13))) (tC (t6 (tR (.v 1001) (.c 14))) (tC (t6 (tR (.v 1001) (.c 15))) (tC (t6 (tR (.v 1001) (.c 16))) (tC (t6 (tR (.v 1001) (.c 17))) (tC (t6 (tR (.v 1001) (.c
 18))) (tC (t6 (tR (.v 1001) (.c 19))) (tC (t6 (tR (.v 1001) (.c 20))) (tC (t6 (tR (.v 1001) (.c 21))) (tC (t6 (tR (.v 1001) (.c 22))) (tC (t6 (tR (.v 1001) (.c 23))) (tC (t6 (tR (.v 1001) (.c 24))) (tC (t6 (tR (.v 1001) (.c 25))) (tC (t6 (tR (.v 1001) (.c 26))) (tC (t6 (tR (.v 1001) (.c 27))) (tC (t6 (tR (.v 1001) (.c 28))) (tC (t6 (tR (.v 1001) (.c 29))) (tC (t6 (tR (.v 1001) (.c 30))) (tC (t6 (tR (.v 1001) (.c 31))) (.c 0)))))))))))))))))))))))))))))))) (.leaf [(.cl 1005 (-2147483648) 2147483647)])))
def P (a b : Int) : Prop :=
 ∃ I1000 : Int → Int → Nat → Prop, (∃ m, I1000 (md32 b) z32 m) ∧ ∀ y0 y1 : Int, ∀ m0, (((-4611686018427387904) ≤ y0 ∧ y0 ≤ 4611686018427387904) ∧ True ∧ True) → I1000 y0 y1 m0 → (Pb (Pl y0 32) (Pm (PL 0 (y0 - (md32 b))) (Pm (Pl (y0 - (md32 b)) 32) (Pm (PL 0 y0) (Pm (PL (y0 + 1) 4611686018427387904) (∃ m', m' < m0 ∧ I1000 (y0 + 1) (updZ y1 y0 (W6 (rdZ (kZ (bitZ a 0) (kZ (bitZ a 1) (kZ (bitZ a 2) (kZ (bitZ a 3) (kZ (bitZ a 4) (kZ (bitZ a 5) (kZ (bitZ a 6) (kZ (bitZ a 7) (kZ (bitZ a 8) (kZ (bitZ a 9) (kZ (bitZ a 10) (kZ (bitZ a 11) (kZ (bitZ a 12) (kZ (bitZ a 13) (kZ (bitZ a 14) (kZ (bitZ a 15) (kZ (bitZ a 16) (kZ (bitZ a 17) (kZ (bitZ a 18) (kZ (bitZ a 19) (kZ (bitZ a 20) (kZ (bitZ a 21) (kZ (bitZ a 22) (kZ (bitZ a 23) (kZ (bitZ a 24) (kZ (bitZ a 25) (kZ (bitZ a 26) (kZ (bitZ a 27) (kZ
 (bitZ a 28) (kZ (bitZ a 29) (kZ (bitZ a 30) (kZ (bitZ a 31) 0)))))))))))))))))))))))))))))))) (y0 - (md32 b))))) m'))))) (Pn (ofZ (W6 (rdZ y1 0)) (W6 (rdZ y1 1)) (kZ (W6 (rdZ y1 2)) (kZ (W6 (rdZ y1 3)) (kZ (W6 (rdZ y1 4)) (kZ (W6 (rdZ y1 5)) (kZ (W6 (rdZ y1 6)) (kZ (W6 (rdZ y1 7)) (kZ (W6 (rdZ y1 8)) (kZ (W6 (rdZ y1 9)) (kZ (W6 (rdZ y1 10)) (kZ (W6 (rdZ y1 11)) (kZ (W6 (rdZ y1 12)) (kZ (W6 (rdZ y1 13)) (kZ (W6 (rdZ y1 14)) (kZ (W6 (rdZ y1 15)) (kZ (W6 (rdZ y1 16)) (kZ (W6 (rdZ y1 17)) (kZ (W6 (rdZ y1 18)) (kZ (W6 (rdZ y1 19)) (kZ (W6 (rdZ y1 20)) (kZ (W6 (rdZ y1 21)) (kZ (W6 (rdZ y1 22)) (kZ (W6 (rdZ y1 23)) (kZ (W6 (rdZ y1 24)) (kZ (W6 (rdZ y1 25)) (kZ (W6 (rdZ y1 26)) (kZ (W6 (rdZ y1 27)) (kZ (W6 (rdZ y1 28)) (kZ (W6 (rdZ y1 29)) (kZ (W6 (rdZ y1 30)) (kZ (W6 (rdZ y1 31))
 0))))))))))))))))))))))))))))))) (-2147483648) 2147483647 fun y5 => ((y5 : Int) = (aluV 9 a b) ∧ True)))
theorem bits_rd (x : Int) (k : Int) (h0 : 0 ≤ k) (h : k < 32) : rdZ (consZ (bitZ x 0) (consZ (bitZ x 1) (consZ (bitZ x 2) (consZ (bitZ x 3) (consZ (bitZ x 4) (consZ (bitZ x 5) (consZ (bitZ x 6) (consZ (bitZ x 7) (consZ (bitZ x 8) (consZ (bitZ x 9) (consZ (bitZ x 10) (consZ (bitZ x 11) (consZ (bitZ x 12) (consZ (bitZ x 13) (consZ (bitZ x 14) (consZ (bitZ x 15) (consZ (bitZ x 16) (consZ (bitZ x 17) (consZ (bitZ x 18) (consZ (bitZ x 19) (consZ (bitZ x 20) (consZ (bitZ x 21) (consZ (bitZ x 22) (consZ (bitZ x 23) (consZ (bitZ x 24) (consZ (bitZ x 25) (consZ (bitZ x 26) (consZ (bitZ x 27) (consZ (bitZ x 28) (consZ (bitZ x 29) (consZ (bitZ x 30) (consZ (bitZ x 31) 0)))))))))))))))))))))))))))))))) k = bt (b32 x) k.toNat := by
 have e : (consZ (bitZ x 0) (consZ (bitZ x 1) (consZ (bitZ x 2) (consZ (bitZ x 3) (consZ (bitZ x 4) (consZ (bitZ x 5) (consZ (bitZ x 6) (consZ (bitZ x 7) (consZ (bitZ x 8) (consZ (bitZ x 9) (consZ (bitZ x 10) (consZ (bitZ x 11) (consZ (bitZ x 12) (consZ (bitZ x 13) (consZ (bitZ x 14) (consZ (bitZ x 15) (consZ (bitZ x 16) (consZ (bitZ x 17) (consZ (bitZ x 18) (consZ (bitZ x 19) (consZ (bitZ x 20) (consZ (bitZ x 21) (consZ (bitZ x 22) (consZ (bitZ x 23) (consZ (bitZ x 24) (consZ (bitZ x 25) (consZ (bitZ x 26) (consZ (bitZ x 27) (consZ (bitZ x 28) (consZ (bitZ x 29) (consZ (bitZ x 30) (consZ (bitZ x 31) 0)))))))))))))))))))))))))))))))) = chn ((List.range 32).map fun i : Nat => bitZ x i) := rfl
 rw [e, show k = ((k.toNat : Nat) : Int) by omega, rd_chn]
 have hr : k.toNat < 32 := by omega
 simp only [List.getD_eq_getElem?_getD, List.getElem?_map, List.getElem?_range hr, Option.map_some, Option.getD_some, bitZ_bt, Int.toNat_natCast]
theorem zero_rd (k : Nat) : rdZ (consZ 0 (consZ 0 (consZ 0 (consZ 0 (consZ 0 (consZ 0 (consZ 0 (consZ 0 (consZ 0 (consZ 0 (consZ 0 (consZ 0 (consZ 0 (consZ 0 (consZ 0 (consZ 0 (consZ 0 (consZ 0 (consZ 0 (consZ 0 (consZ 0 (consZ 0 (consZ 0 (consZ 0 (consZ 0 (consZ 0 (consZ 0 (consZ 0 (consZ 0 (consZ 0 (consZ 0 (consZ 0 0)))))))))))))))))))))))))))))))) k = 0 := by
 have e : (consZ 0 (consZ 0 (consZ 0 (consZ 0 (consZ 0 (consZ 0 (consZ 0 (consZ 0 (consZ 0 (consZ 0 (consZ 0 (consZ 0 (consZ 0 (consZ 0 (consZ 0 (consZ 0 (consZ 0 (consZ 0 (consZ 0 (consZ 0 (consZ 0 (consZ 0 (consZ 0 (consZ 0 (consZ 0 (consZ 0 (consZ 0 (consZ 0 (consZ 0 (consZ 0 (consZ 0 (consZ 0 0)))))))))))))))))))))))))))))))) = chn (List.replicate 32 0) := rfl
 rw [e, rd_chn]
 generalize 32 = n
 simp only [List.getD_eq_getElem?_getD, List.getElem?_replicate]
 split <;> rfl
theorem bt_bd (Z : BitVec 32) (i : Nat) : 0 ≤ bt Z i ∧ bt Z i ≤ 1 := by unfold bt; split <;> omega
theorem bt_w (Z : BitVec 32) (i : Nat) : IntKind.wrap .i64 (bt Z i) = bt Z i := w64 (by have := bt_bd Z i; omega) (by have := bt_bd Z i; omega)
set_option maxRecDepth 100000 in
set_option maxHeartbeats 4000000 in
theorem holds (p0 p1 : Int) (l_p0 : -2147483648 ≤ p0) (u_p0 : p0 ≤ 2147483647) (l_p1 : -2147483648 ≤ p1) (u_p1 : p1 ≤ 2147483647) : P p0 p1 := by
 delta P Pb Pm Pn PL Pl W6 kZ z32
 simp only [nrm, nro, Int.reduceEq, Int.reduceNeg, reduceIte]
 have hn : 0 ≤ md32 p1 ∧ md32 p1 < 32 := by unfold md32; omega
 refine ⟨fun i o m => md32 p1 ≤ i ∧ i ≤ 32 ∧ (∀ j : Nat, j < 32 → IntKind.wrap .i64 (rdZ o j) = if (j : Int) < i ∧ md32 p1 ≤ j then bt (b32 p0) (j - (md32 p1).toNat) else 0) ∧ m = (32 - i).toNat, ⟨_, by omega, by omega, fun j hj => ?_, rfl⟩, fun i o m hb hI => ?_⟩
 ·rw [zero_rd, if_neg (by omega)]; rfl
 obtain ⟨i1, i2, ho, rfl⟩ := hI
 refine ⟨fun h1 => ⟨by omega, by omega, by omega, by omega, _, ?_, by omega, by omega, fun j hj => ?_, rfl⟩, fun h1 => ?_⟩
 ·omega
 ·rw [bits_rd _ _ (by omega) (by omega), bt_w, rdZ_upd]
  by_cases e : (j : Int).toNat = i.toNat
  ·rw [if_pos e, if_pos (by omega), bt_w]; congr 1; omega
  ·rw [if_neg e, ho j hj]
   by_cases g : (j : Int) < i ∧ md32 p1 ≤ j
   ·rw [if_pos g, if_pos (by omega)]
   ·rw [if_neg g, if_neg (by omega)]
 ·rintro _ rfl _
  refine Eq.trans (of_word (b32 p0 <<< (p1 % 32).toNat) (fun k : Nat => IntKind.wrap .i64 (rdZ o k)) fun j hj => ?_) (alu9 l_p0 u_p0 l_p1 u_p1).symm
  show IntKind.wrap .i64 (rdZ o j) = _
  rw [ho j hj]
  unfold bt md32 at *
  simp only [BitVec.getLsbD_shiftLeft]
  by_cases g : p1 % 32 ≤ j
  ·rw [if_pos ⟨by omega, g⟩]; simp [hj, show ¬ j < (p1 % 32).toNat by omega]
  ·rw [if_neg (by omega)]; simp [show j < (p1 % 32).toNat by omega]
theorem plain (i v ro p) : statR 2 rc tree ⟨i, fN, v, ro, p⟩ = P (i 0) (i 1) := by kernel_rfl
theorem ran : ranR us (fun _ _ => .auto) rc 2 tree = true := by kernel_rfl
theorem fineT : fineR 2 rc tree = true := by kernel_rfl
theorem ok : RcOk (cxOf 2) rc := okR us_ok ran fineT okb fun i v ro p hρ hcap hpre => by rw [plain]; have q := hρ.hi; exact holds (i 0) (i 1) (q 0 _ rfl).1 (q 0 _ rfl).2 (q 1 _ rfl).1 (q 1 _ rfl).2
end CRShl
namespace CRShr
def rc : Rc := ⟨111, [none, none], [.int .i32, .int .i32], [], .one, [.int .i32 (.f 63 (.c 10) (.v 0) (.v 1))]⟩
theorem okb : rc.ok = true := by kernel_rfl
def mk4 : Marks := [([0, 7], .num (-9223372036854775808) (9223372036854775807)), ([0, 10], .wild), ([0, 11], .wild), ([0, 12], .wild), ([0, 13], .wild), ([0, 14], .wild), ([0, 15], .wild), ([0, 16], .wild), ([0, 17], .wild), ([0, 18], .wild), ([0, 19], .wild), ([0, 20], .wild), ([0, 21], .wild), ([0, 22], .wild), ([0, 23], .wild), ([0, 24], .wild), ([1, 0, 0], .bank 32 [.int .i64])]
noncomputable def us : SMs := fun Γ ins n => smH (cxG n Γ ins) [] (smR (cxG n Γ ins) [CRBits.rc, CROf.rc, CRBy.rc])
theorem us_ok : SMsOk us := fun Γ ins n => smH_ok (tabsG n Γ ins) (rhs_nil _) (smR_ok (tabsG n Γ ins) (rcs_cons CRBits.okb (rc_n CRBits.ok) (rcs_cons CROf.okb (rc_n CROf.ok) (rcs_cons CRBy.okb (rc_n CRBy.ok) (rcs_nil _)))))
def Q0 : E := (.cl 1000 (-9223372036854775808) 9223372036854775807)
def Q1 : E := (.f 79 (.v 1) (.c 0) (.c 0))
def Q2 : E := (tp Q0 Q1)
def Q3 : E := (t6 Q2)
def tree : TT (List E) :=
 (.loop ⟨1000, [some (-9223372036854775808, 9223372036854775807), none], [(.c 0), (tC (.c 0) (tC (.c 0) (tC (.c 0) (tC (.c 0) (tC (.c 0) (tC (.c 0) (tC (.c 0) (tC (.c 0) (tC (.c 0) (tC (.c 0) (tC (.c 0) (tC (.c 0) (tC (.c 0) (tC (.c 0) (tC (.c 0) (tC (.c 0) (tC (.c 0) (tC (.c 0) (tC (.c 0) (tC (.c 0) (tC (.c 0) (tC (.c 0) (tC (.c 0) (tC (.c 0) (tC (.c 0) (tC (.c 0) (tC (.c 0) (tC (.c 0) (tC (.c 0) (tC (.c 0) (tC (.c 0) (tC (.c 0) (.c 0)))))))))))))))))))))))))))))))))], 1003⟩ (.br (tk Q3 (.c 32)) (.br (tl (.c 0) Q3) (.br (tl (.c 0) Q0) (.br (tk Q0 (.c 32)) (.back [(t6 (tp Q0 (.c 1))), (.f 14 (.v 1001) Q0 (t6 (tR (tC (.f 2 (.v 0) (.c 0) (.c 0)) (tC (.f 2 (.v 0) (.c 1) (.c 0)) (tC (.f 2 (.v 0) (.c 2) (.c 0)) (tC (.f 2 (.v 0) (.c 3) (.c 0)) (tC (.f 2 (.v 0) (.c 4) (.c 0)) (tC (.f 2 (.v 0)
 (.c 5) (.c 0)) (tC (.f 2 (.v 0) (.c 6) (.c 0)) (tC (.f 2 (.v 0) (.c 7) (.c 0)) (tC (.f 2 (.v 0) (.c 8) (.c 0)) (tC (.f 2 (.v 0) (.c 9) (.c 0)) (tC (.f 2 (.v 0) (.c 10) (.c 0)) (tC (.f 2 (.v 0) (.c 11) (.c 0)) (tC (.f 2 (.v 0) (.c 12) (.c 0)) (tC (.f 2 (.v 0) (.c 13) (.c 0)) (tC (.f 2 (.v 0) (.c 14) (.c 0)) (tC (.f 2 (.v 0) (.c 15) (.c 0)) (tC (.f 2 (.v 0) (.c 16) (.c 0)) (tC (.f 2 (.v 0) (.c 17) (.c 0)) (tC (.f 2 (.v 0) (.c 18) (.c 0)) (tC (.f 2 (.v 0) (.c 19) (.c 0)) (tC (.f 2 (.v 0) (.c 20) (.c 0)) (tC (.f 2 (.v 0) (.c 21) (.c 0)) (tC (.f 2 (.v 0) (.c 22) (.c 0)) (tC (.f 2 (.v 0) (.c 23) (.c 0)) (tC (.f 2 (.v 0) (.c 24) (.c 0)) (tC (.f 2 (.v 0) (.c 25) (.c 0)) (tC (.f 2 (.v 0) (.c 26) (.c 0)) (tC (.f 2 (.v 0) (.c 27) (.c 0)) (tC (.f 2 (.v 0) (.c 28) (.c 0)) (tC (.f 2 (.v 0) (.c 29) (.c
 0)) (tC (.f 2 (.v 0) (.c 30) (.c 0)) (tC (.f 2 (.v 0) (.c 31) (.c 0)) (.c 0))))))))))))))))))))))))))))))))) Q3)))]) (.bad 200)) (.bad 200)) (.bad 200)) (.exit 0)) (.new 1005 (.f 77 (t6 (tR (.v 1001) (.c 0))) (t6 (tR (.v 1001) (.c 1))) (tC (t6 (tR (.v 1001) (.c 2))) (tC (t6 (tR (.v 1001) (.c 3))) (tC (t6 (tR (.v 1001) (.c 4))) (tC (t6 (tR (.v 1001) (.c 5))) (tC (t6 (tR (.v 1001) (.c 6))) (tC (t6 (tR (.v 1001) (.c 7))) (tC (t6 (tR (.v 1001) (.c 8))) (tC (t6 (tR (.v 1001) (.c 9))) (tC (t6 (tR (.v 1001) (.c 10))) (tC (t6 (tR (.v 1001) (.c 11))) (tC (t6 (tR (.v 1001) (.c 12))) (tC (t6 (tR (.v 1001) (.c 13))) (tC (t6 (tR (.v 1001) (.c 14))) (tC (t6 (tR (.v 1001) (.c 15))) (tC (t6 (tR (.v 1001) (.c 16))) (tC (t6 (tR (.v 1001) (.c 17))) (tC (t6 (tR (.v 1001) (.c 18))) (tC (t6 (tR (.v 1001) (.c
 19))) (tC (t6 (tR (.v 1001) (.c 20))) (tC (t6 (tR (.v 1001) (.c 21))) (tC (t6 (tR (.v 1001) (.c 22))) (tC (t6 (tR (.v 1001) (.c 23))) (tC (t6 (tR (.v 1001) (.c 24))) (tC (t6 (tR (.v 1001) (.c 25))) (tC (t6 (tR (.v 1001) (.c 26))) (tC (t6 (tR (.v 1001) (.c 27))) (tC (t6 (tR (.v 1001) (.c 28))) (tC (t6 (tR (.v 1001) (.c 29))) (tC (t6 (tR (.v 1001) (.c 30))) (tC (t6 (tR (.v 1001) (.c 31))) (.c 0)))))))))))))))))))))))))))))))) (.leaf [(.cl 1005 (-2147483648) 2147483647)])))
def P (a b : Int) : Prop :=
 ∃ I1000 : Int → Int → Nat → Prop, (∃ m, I1000 0 z32 m) ∧ ∀ y0 y1 : Int, ∀ m0, (((-9223372036854775808) ≤ y0 ∧ y0 ≤ 9223372036854775807) ∧ True ∧ True) → I1000 y0 y1 m0 → (Pb (Pl (W6 (y0 + (md32 b))) 32) (Pm (PL 0 (W6 (y0 + (md32 b)))) (Pm (PL 0 y0) (Pm (Pl y0 32) (∃ m', m' < m0 ∧ I1000 (W6 (y0 + 1)) (updZ y1 y0 (W6 (rdZ (kZ (bitZ a 0) (kZ (bitZ a 1) (kZ (bitZ a 2) (kZ (bitZ a 3) (kZ (bitZ a 4) (kZ (bitZ a 5) (kZ (bitZ a 6) (kZ (bitZ a 7) (kZ (bitZ a 8) (kZ (bitZ a 9) (kZ (bitZ a 10) (kZ (bitZ a 11) (kZ (bitZ a 12) (kZ (bitZ a 13) (kZ (bitZ a 14) (kZ (bitZ a 15) (kZ (bitZ a 16) (kZ (bitZ a 17) (kZ (bitZ a 18) (kZ (bitZ a 19) (kZ (bitZ a 20) (kZ (bitZ a 21) (kZ (bitZ a 22) (kZ (bitZ a 23) (kZ (bitZ a 24) (kZ (bitZ a 25) (kZ (bitZ a 26) (kZ (bitZ a 27) (kZ (bitZ a 28) (kZ (bitZ a 29) (kZ
 (bitZ a 30) (kZ (bitZ a 31) 0)))))))))))))))))))))))))))))))) (W6 (y0 + (md32 b)))))) m')))) (Pn (ofZ (W6 (rdZ y1 0)) (W6 (rdZ y1 1)) (kZ (W6 (rdZ y1 2)) (kZ (W6 (rdZ y1 3)) (kZ (W6 (rdZ y1 4)) (kZ (W6 (rdZ y1 5)) (kZ (W6 (rdZ y1 6)) (kZ (W6 (rdZ y1 7)) (kZ (W6 (rdZ y1 8)) (kZ (W6 (rdZ y1 9)) (kZ (W6 (rdZ y1 10)) (kZ (W6 (rdZ y1 11)) (kZ (W6 (rdZ y1 12)) (kZ (W6 (rdZ y1 13)) (kZ (W6 (rdZ y1 14)) (kZ (W6 (rdZ y1 15)) (kZ (W6 (rdZ y1 16)) (kZ (W6 (rdZ y1 17)) (kZ (W6 (rdZ y1 18)) (kZ (W6 (rdZ y1 19)) (kZ (W6 (rdZ y1 20)) (kZ (W6 (rdZ y1 21)) (kZ (W6 (rdZ y1 22)) (kZ (W6 (rdZ y1 23)) (kZ (W6 (rdZ y1 24)) (kZ (W6 (rdZ y1 25)) (kZ (W6 (rdZ y1 26)) (kZ (W6 (rdZ y1 27)) (kZ (W6 (rdZ y1 28)) (kZ (W6 (rdZ y1 29)) (kZ (W6 (rdZ y1 30)) (kZ (W6 (rdZ y1 31)) 0)))))))))))))))))))))))))))))))
 (-2147483648) 2147483647 fun y5 => ((y5 : Int) = (aluV 10 a b) ∧ True)))
theorem bits_rd (x : Int) (k : Int) (h0 : 0 ≤ k) (h : k < 32) : rdZ (consZ (bitZ x 0) (consZ (bitZ x 1) (consZ (bitZ x 2) (consZ (bitZ x 3) (consZ (bitZ x 4) (consZ (bitZ x 5) (consZ (bitZ x 6) (consZ (bitZ x 7) (consZ (bitZ x 8) (consZ (bitZ x 9) (consZ (bitZ x 10) (consZ (bitZ x 11) (consZ (bitZ x 12) (consZ (bitZ x 13) (consZ (bitZ x 14) (consZ (bitZ x 15) (consZ (bitZ x 16) (consZ (bitZ x 17) (consZ (bitZ x 18) (consZ (bitZ x 19) (consZ (bitZ x 20) (consZ (bitZ x 21) (consZ (bitZ x 22) (consZ (bitZ x 23) (consZ (bitZ x 24) (consZ (bitZ x 25) (consZ (bitZ x 26) (consZ (bitZ x 27) (consZ (bitZ x 28) (consZ (bitZ x 29) (consZ (bitZ x 30) (consZ (bitZ x 31) 0)))))))))))))))))))))))))))))))) k = bt (b32 x) k.toNat := by
 have e : (consZ (bitZ x 0) (consZ (bitZ x 1) (consZ (bitZ x 2) (consZ (bitZ x 3) (consZ (bitZ x 4) (consZ (bitZ x 5) (consZ (bitZ x 6) (consZ (bitZ x 7) (consZ (bitZ x 8) (consZ (bitZ x 9) (consZ (bitZ x 10) (consZ (bitZ x 11) (consZ (bitZ x 12) (consZ (bitZ x 13) (consZ (bitZ x 14) (consZ (bitZ x 15) (consZ (bitZ x 16) (consZ (bitZ x 17) (consZ (bitZ x 18) (consZ (bitZ x 19) (consZ (bitZ x 20) (consZ (bitZ x 21) (consZ (bitZ x 22) (consZ (bitZ x 23) (consZ (bitZ x 24) (consZ (bitZ x 25) (consZ (bitZ x 26) (consZ (bitZ x 27) (consZ (bitZ x 28) (consZ (bitZ x 29) (consZ (bitZ x 30) (consZ (bitZ x 31) 0)))))))))))))))))))))))))))))))) = chn ((List.range 32).map fun i : Nat => bitZ x i) := rfl
 rw [e, show k = ((k.toNat : Nat) : Int) by omega, rd_chn]
 have hr : k.toNat < 32 := by omega
 simp only [List.getD_eq_getElem?_getD, List.getElem?_map, List.getElem?_range hr, Option.map_some, Option.getD_some, bitZ_bt, Int.toNat_natCast]
theorem zero_rd (k : Nat) : rdZ (consZ 0 (consZ 0 (consZ 0 (consZ 0 (consZ 0 (consZ 0 (consZ 0 (consZ 0 (consZ 0 (consZ 0 (consZ 0 (consZ 0 (consZ 0 (consZ 0 (consZ 0 (consZ 0 (consZ 0 (consZ 0 (consZ 0 (consZ 0 (consZ 0 (consZ 0 (consZ 0 (consZ 0 (consZ 0 (consZ 0 (consZ 0 (consZ 0 (consZ 0 (consZ 0 (consZ 0 (consZ 0 0)))))))))))))))))))))))))))))))) k = 0 := by
 have e : (consZ 0 (consZ 0 (consZ 0 (consZ 0 (consZ 0 (consZ 0 (consZ 0 (consZ 0 (consZ 0 (consZ 0 (consZ 0 (consZ 0 (consZ 0 (consZ 0 (consZ 0 (consZ 0 (consZ 0 (consZ 0 (consZ 0 (consZ 0 (consZ 0 (consZ 0 (consZ 0 (consZ 0 (consZ 0 (consZ 0 (consZ 0 (consZ 0 (consZ 0 (consZ 0 (consZ 0 (consZ 0 0)))))))))))))))))))))))))))))))) = chn (List.replicate 32 0) := rfl
 rw [e, rd_chn]
 generalize 32 = n
 simp only [List.getD_eq_getElem?_getD, List.getElem?_replicate]
 split <;> rfl
theorem bt_bd (Z : BitVec 32) (i : Nat) : 0 ≤ bt Z i ∧ bt Z i ≤ 1 := by unfold bt; split <;> omega
theorem bt_w (Z : BitVec 32) (i : Nat) : IntKind.wrap .i64 (bt Z i) = bt Z i := w64 (by have := bt_bd Z i; omega) (by have := bt_bd Z i; omega)
set_option maxRecDepth 100000 in
set_option maxHeartbeats 4000000 in
theorem holds (p0 p1 : Int) (l_p0 : -2147483648 ≤ p0) (u_p0 : p0 ≤ 2147483647) (l_p1 : -2147483648 ≤ p1) (u_p1 : p1 ≤ 2147483647) : P p0 p1 := by
 delta P Pb Pm Pn PL Pl W6 kZ z32
 simp only [nrm, nro, Int.reduceEq, Int.reduceNeg, reduceIte]
 have hn : 0 ≤ md32 p1 ∧ md32 p1 < 32 := by unfold md32; omega
 refine ⟨fun i o m => 0 ≤ i ∧ i ≤ 32 ∧ (i = 0 ∨ i + md32 p1 ≤ 32) ∧ (∀ j : Nat, j < 32 → IntKind.wrap .i64 (rdZ o j) = if (j : Int) < i then bt (b32 p0) (j + (md32 p1).toNat) else 0) ∧ m = (32 - i).toNat, ⟨_, by omega, by omega, .inl rfl, fun j hj => ?_, rfl⟩, fun i o m hb hI => ?_⟩
 ·rw [zero_rd, if_neg (by omega)]; rfl
 obtain ⟨i0, i1, i2, ho, rfl⟩ := hI
 have wi : IntKind.wrap .i64 (i + md32 p1) = i + md32 p1 := w64 (by omega) (by omega)
 have wj : IntKind.wrap .i64 (i + 1) = i + 1 := w64 (by omega) (by omega)
 simp only [wi, wj]
 refine ⟨fun h1 => ⟨by omega, by omega, by omega, _, ?_, by omega, by omega, by omega, fun j hj => ?_, rfl⟩, fun h1 => ?_⟩
 ·omega
 ·rw [bits_rd _ _ (by omega) (by omega), bt_w, rdZ_upd]
  by_cases e : (j : Int).toNat = i.toNat
  ·rw [if_pos e, if_pos (by omega), bt_w]; congr 1; omega
  ·rw [if_neg e, ho j hj]
   by_cases g : (j : Int) < i
   ·rw [if_pos g, if_pos (by omega)]
   ·rw [if_neg g, if_neg (by omega)]
 ·rintro _ rfl _
  refine Eq.trans (of_word (b32 p0 >>> (p1 % 32).toNat) (fun k : Nat => IntKind.wrap .i64 (rdZ o k)) fun j hj => ?_) (alu10 l_p0 u_p0 l_p1 u_p1).symm
  show IntKind.wrap .i64 (rdZ o j) = _
  rw [ho j hj]
  unfold bt md32 at *
  simp only [BitVec.getLsbD_ushiftRight]
  by_cases g : (j : Int) < i
  ·rw [if_pos g, Nat.add_comm]
  ·rw [if_neg g, BitVec.getLsbD_of_ge _ _ (by omega)]; rfl
theorem plain (i v ro p) : statR 2 rc tree ⟨i, fN, v, ro, p⟩ = P (i 0) (i 1) := by kernel_rfl
theorem ran : ranR us (fun f i => if f = 111 then (match i with | 4 => .tmpl (some mk4) | _ => .auto) else .auto) rc 2 tree = true := by kernel_rfl
theorem fineT : fineR 2 rc tree = true := by kernel_rfl
theorem ok : RcOk (cxOf 2) rc := okR us_ok ran fineT okb fun i v ro p hρ hcap hpre => by rw [plain]; have q := hρ.hi; exact holds (i 0) (i 1) (q 0 _ rfl).1 (q 0 _ rfl).2 (q 1 _ rfl).1 (q 1 _ rfl).2
end CRShr
namespace CRSar
def rc : Rc := ⟨106, [none, none], [.int .i32, .int .i32], [], .one, [.int .i32 (.f 63 (.c 11) (.v 0) (.v 1))]⟩
theorem okb : rc.ok = true := by kernel_rfl
noncomputable def us : SMs := fun Γ ins n => smH (cxG n Γ ins) [] (smR (cxG n Γ ins) [CRBy.rc])
theorem us_ok : SMsOk us := fun Γ ins n => smH_ok (tabsG n Γ ins) (rhs_nil _) (smR_ok (tabsG n Γ ins) (rcs_cons CRBy.okb (rc_n CRBy.ok) (rcs_nil _)))
def tree : TT (List E) :=
(.loop ⟨1000, [some (-9223372036854775808, 9223372036854775807), some (0, 4611686018427387904)], [(.c 1), (.c 0)], 1003⟩
 (.br (.b .lt .i64 (.cl 1001 0 4611686018427387904) (.f 79 (.v 1) (.c 0) (.c 0)))
 (.br (.b .le .i64 (.b .padd .i64 (.cl 1001 0 4611686018427387904) (.c 1)) (.c 4611686018427387904))
 (.back [(.w .i64 (.b .pmul .i64 (.c 2) (.cl 1000 (-9223372036854775808) 9223372036854775807))), (.b .padd .i64 (.cl 1001 0 4611686018427387904) (.c 1))])
 (.bad 303))
 (.exit 0))
 (.br (.b .eq .i64 (.cl 1000 (-9223372036854775808) 9223372036854775807) (.c 0))
 (.bad 3)
 (.br (.b .lt .i64 (.b .rem .i64 (.v 0) (.cl 1000 (-9223372036854775808) 9223372036854775807)) (.c 0))
 (.leaf [(.w .i32 (.b .quo .i64 (.w .i64 (.b .psub .i64 (.v 0) (.w .i64 (.b .padd .i64 (.b .rem .i64 (.v 0) (.cl 1000 (-9223372036854775808) 9223372036854775807)) (.cl 1000 (-9223372036854775808) 9223372036854775807))))) (.cl 1000 (-9223372036854775808) 9223372036854775807)))])
 (.leaf [(.w .i32 (.b .quo .i64 (.w .i64 (.b .psub .i64 (.v 0) (.b .rem .i64 (.v 0) (.cl 1000 (-9223372036854775808) 9223372036854775807)))) (.cl 1000 (-9223372036854775808) 9223372036854775807)))]))))
def P (p0 p1 : Int) : Prop :=
 ∃ I1000 : Int → Int → Nat → Prop, (∃ m, I1000 1 0 m) ∧
 ∀ y1000 y1001 : Int, ∀ m1000, (((-9223372036854775808) ≤ y1000 ∧ y1000 ≤ 9223372036854775807) ∧ (0 ≤ y1001 ∧ y1001 ≤ 4611686018427387904) ∧ True) → I1000 y1000 y1001 m1000 →
  (((bool01 (decide (y1001 < (md32 p1)))) ≠ 0 →
   (((bool01 (decide ((y1001 + 1) ≤ 4611686018427387904))) ≠ 0 →
    ∃ m', m' < m1000 ∧ I1000 (IntKind.wrap .i64 (2 * y1000)) (y1001 + 1) m') ∧ ((bool01 (decide ((y1001 + 1) ≤ 4611686018427387904))) = 0 →
    False))) ∧ ((bool01 (decide (y1001 < (md32 p1)))) = 0 →
   (((bool01 (y1000 == 0)) ≠ 0 →
    False) ∧ ((bool01 (y1000 == 0)) = 0 →
    (((bool01 (decide ((BO.ev .rem .i64 p0 y1000) < 0))) ≠ 0 →
     ((IntKind.wrap .i32 (BO.ev .quo .i64 (IntKind.wrap .i64 (p0 - (IntKind.wrap .i64 ((BO.ev .rem .i64 p0 y1000) + y1000)))) y1000)) : Int) = (aluV 11 p0 p1) ∧ True) ∧ ((bool01 (decide ((BO.ev .rem .i64 p0 y1000) < 0))) = 0 →
     ((IntKind.wrap .i32 (BO.ev .quo .i64 (IntKind.wrap .i64 (p0 - (BO.ev .rem .i64 p0 y1000))) y1000)) : Int) = (aluV 11 p0 p1) ∧ True))))))
theorem alu11 {x n : Int} (x1 : -2147483648 ≤ x) (x2 : x ≤ 2147483647) (n1 : -2147483648 ≤ n) (n2 : n ≤ 2147483647) : aluV 11 x n = x / 2 ^ (md32 n).toNat := by
 rw [aluV_of (aluP_9 (by decide) (by decide) (by decide) (by decide)) x1 x2 n1 n2]
 unfold aluX
 simp only [Int.reduceEq, if_false, if_true]
 rw [and31, shr_ev, show Nat.min (n % 32).toNat IntKind.i32.bits = (n % 32).toNat from Nat.min_eq_left (by show (n % 32).toNat ≤ 32; omega)]; rfl
theorem sar_div {x p : Int} (hp : 0 < p) (hp2 : p ≤ 2147483648) (x1 : -2147483648 ≤ x) (x2 : x ≤ 2147483647) :
  (x.tmod p < 0 → IntKind.wrap .i32 (BO.ev .quo .i64 (IntKind.wrap .i64 (x - IntKind.wrap .i64 (x.tmod p + p))) p) = x / p) ∧ (0 ≤ x.tmod p → IntKind.wrap .i32 (BO.ev .quo .i64 (IntKind.wrap .i64 (x - x.tmod p)) p) = x / p) := by
 have h1 := Int.emod_add_mul_ediv x p
 have h2 := Int.emod_nonneg x (show p ≠ 0 by omega)
 have h3 := Int.emod_lt_of_pos x hp
 have hd : -2147483648 ≤ x / p ∧ x / p ≤ 2147483647 := by
  constructor
  ·refine (Int.le_ediv_iff_mul_le hp).2 ?_
   have := Int.mul_le_mul_of_nonneg_left (show (1 : Int) ≤ p by omega) (show (0 : Int) ≤ 2147483648 by decide)
   omega
  ·have h5 := Int.ediv_le_ediv hp x2
   have h6 : (2147483647 : Int) / p ≤ 2147483647 := Int.ediv_le_self p (by decide)
   omega
 have ex : (x - x % p).tdiv p = x / p := by
  have : x - x % p = p * (x / p) := by omega
  rw [this, Int.mul_tdiv_cancel_left _ (by omega)]
 have key : IntKind.wrap .i32 (BO.ev .quo .i64 (x - x % p) p) = x / p := by
  show IntKind.wrap .i32 (IntKind.wrap .i64 ((x - x % p).tdiv p)) = _
  rw [ex, w64 (by omega) (by omega), wi32 hd.1 hd.2]
 have tm : x.tmod p = x % p ∨ x.tmod p = x % p - p ∧ x % p ≠ 0 := by
  rcases Int.le_total 0 x with g | g
  ·exact .inl (Int.tmod_eq_emod_of_nonneg g)
  ·have h8 : x.tmod p = -((-x) % p) := by
    rw [← Int.neg_neg x, Int.neg_tmod, Int.tmod_eq_emod_of_nonneg (by omega), Int.neg_neg]
   by_cases hz : x % p = 0
   ·have : (-x) % p = 0 := by rw [Int.neg_emod, if_pos (Int.dvd_of_emod_eq_zero hz)]
    exact .inl (by omega)
   ·have h9 : (-x) % p = p - x % p := by
     rw [Int.neg_emod, if_neg (fun h => hz (Int.emod_eq_zero_of_dvd h))]; omega
    exact .inr ⟨by omega, hz⟩
 constructor
 ·intro g
  have e : x.tmod p + p = x % p := by omega
  rw [e, w64 (x := x % p) (by omega) (by omega), w64 (x := x - x % p) (by omega) (by omega)]
  exact key
 ·intro g
  have e : x.tmod p = x % p := by omega
  rw [e, w64 (x := x - x % p) (by omega) (by omega)]
  exact key
theorem holds (p0 p1 : Int) (l_p0 : -2147483648 ≤ p0) (u_p0 : p0 ≤ 2147483647) (l_p1 : -2147483648 ≤ p1) (u_p1 : p1 ≤ 2147483647) : P p0 p1 := by
 unfold P
 simp only [nrm, nro, Int.reduceEq, Int.reduceNeg, reduceIte]
 have hn : 0 ≤ md32 p1 ∧ md32 p1 < 32 := by unfold md32; omega
 have hp : ∀ k : Nat, k ≤ 31 → (0 : Int) < 2 ^ k ∧ (2 : Int) ^ k ≤ 2147483648 := by
  intro k hk
  have : ∀ j : Fin 32, (0 : Int) < 2 ^ j.val ∧ (2 : Int) ^ j.val ≤ 2147483648 := by decide +kernel
  exact this ⟨k, by omega⟩
 refine ⟨fun y i m => i ≤ md32 p1 ∧ y = 2 ^ i.toNat ∧ m = (md32 p1 - i).toNat, ⟨_, hn.1, rfl, rfl⟩, fun y i m hb hI => ?_⟩
 obtain ⟨hi, rfl, rfl⟩ := hI
 have hpi := hp i.toNat (by omega)
 refine ⟨fun h1 => ⟨by omega, _, ?_, by omega, ?_, rfl⟩, fun h1 => ?_⟩
 ·omega
 ·rw [w64 (by omega) (by omega), show (i + 1).toNat = i.toNat + 1 by omega, Int.pow_succ, Int.mul_comm]
 ·have e : i = md32 p1 := by omega
  rw [alu11 l_p0 u_p0 l_p1 u_p1, ← e]
  have := sar_div hpi.1 hpi.2 l_p0 u_p0
  exact ⟨fun h => by omega, fun h => ⟨this.1, this.2⟩⟩
theorem plain (i v ro p) : statR 2 rc tree ⟨i, fN, v, ro, p⟩ = P (i 0) (i 1) := by kernel_rfl
theorem ran : ranR us (fun _ _ => .auto) rc 2 tree = true := by kernel_rfl
theorem fineT : fineR 2 rc tree = true := by kernel_rfl
theorem ok : RcOk (cxOf 2) rc := okR us_ok ran fineT okb fun i v ro p hρ hcap hpre => by rw [plain]; have q := hρ.hi; exact holds (i 0) (i 1) (q 0 _ rfl).1 (q 0 _ rfl).2 (q 1 _ rfl).1 (q 1 _ rfl).2
end CRSar
namespace CRRol
def rc : Rc := ⟨112, [none, none], [.int .i32, .int .i32], [], .one, [.int .i32 (.f 63 (.c 12) (.v 0) (.v 1))]⟩
theorem okb : rc.ok = true := by kernel_rfl
noncomputable def us : SMs := fun Γ ins n => smH (cxG n Γ ins) [] (smR (cxG n Γ ins) [CRBits.rc, CROf.rc, CRBy.rc])
theorem us_ok : SMsOk us := fun Γ ins n => smH_ok (tabsG n Γ ins) (rhs_nil _) (smR_ok (tabsG n Γ ins) (rcs_cons CRBits.okb (rc_n CRBits.ok) (rcs_cons CROf.okb (rc_n CROf.ok) (rcs_cons CRBy.okb (rc_n CRBy.ok) (rcs_nil _)))))
def Q0 : E := (.cl 1000 0 4611686018427387904)
def Q1 : E := (tp Q0 (.c 1))
def tree : TT (List E) :=
 (.loop ⟨1000, [some (0, 4611686018427387904), none], [(.c 0), (tC (.c 0) (tC (.c 0) (tC (.c 0) (tC (.c 0) (tC (.c 0) (tC (.c 0) (tC (.c 0) (tC (.c 0) (tC (.c 0) (tC (.c 0) (tC (.c 0) (tC (.c 0) (tC (.c 0) (tC (.c 0) (tC (.c 0) (tC (.c 0) (tC (.c 0) (tC (.c 0) (tC (.c 0) (tC (.c 0) (tC (.c 0) (tC (.c 0) (tC (.c 0) (tC (.c 0) (tC (.c 0) (tC (.c 0) (tC (.c 0) (tC (.c 0) (tC (.c 0) (tC (.c 0) (tC (.c 0) (tC (.c 0) (.c 0)))))))))))))))))))))))))))))))))], 1005⟩ (.br (tk Q0 (.c 32)) (.new 1003 (.b .rem .i64 (tp Q0 (.f 79 (.v 1) (.c 0) (.c 0))) (.c 32)) (.new 1004 (t6 (tR (tC (.f 2 (.v 0) (.c 0) (.c 0)) (tC (.f 2 (.v 0) (.c 1) (.c 0)) (tC (.f 2 (.v 0) (.c 2) (.c 0)) (tC (.f 2 (.v 0) (.c 3) (.c 0)) (tC (.f 2 (.v 0) (.c 4) (.c 0)) (tC (.f 2 (.v 0) (.c 5) (.c 0)) (tC (.f 2 (.v 0) (.c 6) (.c 0))
 (tC (.f 2 (.v 0) (.c 7) (.c 0)) (tC (.f 2 (.v 0) (.c 8) (.c 0)) (tC (.f 2 (.v 0) (.c 9) (.c 0)) (tC (.f 2 (.v 0) (.c 10) (.c 0)) (tC (.f 2 (.v 0) (.c 11) (.c 0)) (tC (.f 2 (.v 0) (.c 12) (.c 0)) (tC (.f 2 (.v 0) (.c 13) (.c 0)) (tC (.f 2 (.v 0) (.c 14) (.c 0)) (tC (.f 2 (.v 0) (.c 15) (.c 0)) (tC (.f 2 (.v 0) (.c 16) (.c 0)) (tC (.f 2 (.v 0) (.c 17) (.c 0)) (tC (.f 2 (.v 0) (.c 18) (.c 0)) (tC (.f 2 (.v 0) (.c 19) (.c 0)) (tC (.f 2 (.v 0) (.c 20) (.c 0)) (tC (.f 2 (.v 0) (.c 21) (.c 0)) (tC (.f 2 (.v 0) (.c 22) (.c 0)) (tC (.f 2 (.v 0) (.c 23) (.c 0)) (tC (.f 2 (.v 0) (.c 24) (.c 0)) (tC (.f 2 (.v 0) (.c 25) (.c 0)) (tC (.f 2 (.v 0) (.c 26) (.c 0)) (tC (.f 2 (.v 0) (.c 27) (.c 0)) (tC (.f 2 (.v 0) (.c 28) (.c 0)) (tC (.f 2 (.v 0) (.c 29) (.c 0)) (tC (.f 2 (.v 0) (.c 30) (.c 0)) (tC (.f 2
 (.v 0) (.c 31) (.c 0)) (.c 0))))))))))))))))))))))))))))))))) Q0)) (.br (tl Q1 (.c 4611686018427387904)) (.back [Q1, (.f 14 (.v 1001) (.cl 1003 0 31) (.cl 1004 (-9223372036854775808) 9223372036854775807))]) (.bad 303)))) (.exit 0)) (.new 1007 (.f 77 (t6 (tR (.v 1001) (.c 0))) (t6 (tR (.v 1001) (.c 1))) (tC (t6 (tR (.v 1001) (.c 2))) (tC (t6 (tR (.v 1001) (.c 3))) (tC (t6 (tR (.v 1001) (.c 4))) (tC (t6 (tR (.v 1001) (.c 5))) (tC (t6 (tR (.v 1001) (.c 6))) (tC (t6 (tR (.v 1001) (.c 7))) (tC (t6 (tR (.v 1001) (.c 8))) (tC (t6 (tR (.v 1001) (.c 9))) (tC (t6 (tR (.v 1001) (.c 10))) (tC (t6 (tR (.v 1001) (.c 11))) (tC (t6 (tR (.v 1001) (.c 12))) (tC (t6 (tR (.v 1001) (.c 13))) (tC (t6 (tR (.v 1001) (.c 14))) (tC (t6 (tR (.v 1001) (.c 15))) (tC (t6 (tR (.v 1001) (.c 16))) (tC (t6 (tR (.v 1001)
 (.c 17))) (tC (t6 (tR (.v 1001) (.c 18))) (tC (t6 (tR (.v 1001) (.c 19))) (tC (t6 (tR (.v 1001) (.c 20))) (tC (t6 (tR (.v 1001) (.c 21))) (tC (t6 (tR (.v 1001) (.c 22))) (tC (t6 (tR (.v 1001) (.c 23))) (tC (t6 (tR (.v 1001) (.c 24))) (tC (t6 (tR (.v 1001) (.c 25))) (tC (t6 (tR (.v 1001) (.c 26))) (tC (t6 (tR (.v 1001) (.c 27))) (tC (t6 (tR (.v 1001) (.c 28))) (tC (t6 (tR (.v 1001) (.c 29))) (tC (t6 (tR (.v 1001) (.c 30))) (tC (t6 (tR (.v 1001) (.c 31))) (.c 0)))))))))))))))))))))))))))))))) (.leaf [(.cl 1007 (-2147483648) 2147483647)])))
def P (a b : Int) : Prop :=
 ∃ I1000 : Int → Int → Nat → Prop, (∃ m, I1000 0 z32 m) ∧ ∀ y0 y1 : Int, ∀ m0, ((0 ≤ y0 ∧ y0 ≤ 4611686018427387904) ∧ True ∧ True) → I1000 y0 y1 m0 → (Pb (Pl y0 32) (Pn (BO.ev .rem .i64 (y0 + (md32 b)) 32) 0 31 fun y3 => Pn (W6 (rdZ (kZ (bitZ a 0) (kZ (bitZ a 1) (kZ (bitZ a 2) (kZ (bitZ a 3) (kZ (bitZ a 4) (kZ (bitZ a 5) (kZ (bitZ a 6) (kZ (bitZ a 7) (kZ (bitZ a 8) (kZ (bitZ a 9) (kZ (bitZ a 10) (kZ (bitZ a 11) (kZ (bitZ a 12) (kZ (bitZ a 13) (kZ (bitZ a 14) (kZ (bitZ a 15) (kZ (bitZ a 16) (kZ (bitZ a 17) (kZ (bitZ a 18) (kZ (bitZ a 19) (kZ (bitZ a 20) (kZ (bitZ a 21) (kZ (bitZ a 22) (kZ (bitZ a 23) (kZ (bitZ a 24) (kZ (bitZ a 25) (kZ (bitZ a 26) (kZ (bitZ a 27) (kZ (bitZ a 28) (kZ (bitZ a 29) (kZ (bitZ a 30) (kZ (bitZ a 31) 0)))))))))))))))))))))))))))))))) y0)) (-9223372036854775808)
 9223372036854775807 fun y4 => (Pm (PL (y0 + 1) 4611686018427387904) (∃ m', m' < m0 ∧ I1000 (y0 + 1) (updZ y1 y3 y4) m'))) (Pn (ofZ (W6 (rdZ y1 0)) (W6 (rdZ y1 1)) (kZ (W6 (rdZ y1 2)) (kZ (W6 (rdZ y1 3)) (kZ (W6 (rdZ y1 4)) (kZ (W6 (rdZ y1 5)) (kZ (W6 (rdZ y1 6)) (kZ (W6 (rdZ y1 7)) (kZ (W6 (rdZ y1 8)) (kZ (W6 (rdZ y1 9)) (kZ (W6 (rdZ y1 10)) (kZ (W6 (rdZ y1 11)) (kZ (W6 (rdZ y1 12)) (kZ (W6 (rdZ y1 13)) (kZ (W6 (rdZ y1 14)) (kZ (W6 (rdZ y1 15)) (kZ (W6 (rdZ y1 16)) (kZ (W6 (rdZ y1 17)) (kZ (W6 (rdZ y1 18)) (kZ (W6 (rdZ y1 19)) (kZ (W6 (rdZ y1 20)) (kZ (W6 (rdZ y1 21)) (kZ (W6 (rdZ y1 22)) (kZ (W6 (rdZ y1 23)) (kZ (W6 (rdZ y1 24)) (kZ (W6 (rdZ y1 25)) (kZ (W6 (rdZ y1 26)) (kZ (W6 (rdZ y1 27)) (kZ (W6 (rdZ y1 28)) (kZ (W6 (rdZ y1 29)) (kZ (W6 (rdZ y1 30)) (kZ (W6 (rdZ y1 31))
 0))))))))))))))))))))))))))))))) (-2147483648) 2147483647 fun y7 => ((y7 : Int) = (aluV 12 a b) ∧ True)))
theorem bits_rd (x : Int) (k : Int) (h0 : 0 ≤ k) (h : k < 32) : rdZ (consZ (bitZ x 0) (consZ (bitZ x 1) (consZ (bitZ x 2) (consZ (bitZ x 3) (consZ (bitZ x 4) (consZ (bitZ x 5) (consZ (bitZ x 6) (consZ (bitZ x 7) (consZ (bitZ x 8) (consZ (bitZ x 9) (consZ (bitZ x 10) (consZ (bitZ x 11) (consZ (bitZ x 12) (consZ (bitZ x 13) (consZ (bitZ x 14) (consZ (bitZ x 15) (consZ (bitZ x 16) (consZ (bitZ x 17) (consZ (bitZ x 18) (consZ (bitZ x 19) (consZ (bitZ x 20) (consZ (bitZ x 21) (consZ (bitZ x 22) (consZ (bitZ x 23) (consZ (bitZ x 24) (consZ (bitZ x 25) (consZ (bitZ x 26) (consZ (bitZ x 27) (consZ (bitZ x 28) (consZ (bitZ x 29) (consZ (bitZ x 30) (consZ (bitZ x 31) 0)))))))))))))))))))))))))))))))) k = bt (b32 x) k.toNat := by
 have e : (consZ (bitZ x 0) (consZ (bitZ x 1) (consZ (bitZ x 2) (consZ (bitZ x 3) (consZ (bitZ x 4) (consZ (bitZ x 5) (consZ (bitZ x 6) (consZ (bitZ x 7) (consZ (bitZ x 8) (consZ (bitZ x 9) (consZ (bitZ x 10) (consZ (bitZ x 11) (consZ (bitZ x 12) (consZ (bitZ x 13) (consZ (bitZ x 14) (consZ (bitZ x 15) (consZ (bitZ x 16) (consZ (bitZ x 17) (consZ (bitZ x 18) (consZ (bitZ x 19) (consZ (bitZ x 20) (consZ (bitZ x 21) (consZ (bitZ x 22) (consZ (bitZ x 23) (consZ (bitZ x 24) (consZ (bitZ x 25) (consZ (bitZ x 26) (consZ (bitZ x 27) (consZ (bitZ x 28) (consZ (bitZ x 29) (consZ (bitZ x 30) (consZ (bitZ x 31) 0)))))))))))))))))))))))))))))))) = chn ((List.range 32).map fun i : Nat => bitZ x i) := rfl
 rw [e, show k = ((k.toNat : Nat) : Int) by omega, rd_chn]
 have hr : k.toNat < 32 := by omega
 simp only [List.getD_eq_getElem?_getD, List.getElem?_map, List.getElem?_range hr, Option.map_some, Option.getD_some, bitZ_bt, Int.toNat_natCast]
theorem zero_rd (k : Nat) : rdZ (consZ 0 (consZ 0 (consZ 0 (consZ 0 (consZ 0 (consZ 0 (consZ 0 (consZ 0 (consZ 0 (consZ 0 (consZ 0 (consZ 0 (consZ 0 (consZ 0 (consZ 0 (consZ 0 (consZ 0 (consZ 0 (consZ 0 (consZ 0 (consZ 0 (consZ 0 (consZ 0 (consZ 0 (consZ 0 (consZ 0 (consZ 0 (consZ 0 (consZ 0 (consZ 0 (consZ 0 (consZ 0 0)))))))))))))))))))))))))))))))) k = 0 := by
 have e : (consZ 0 (consZ 0 (consZ 0 (consZ 0 (consZ 0 (consZ 0 (consZ 0 (consZ 0 (consZ 0 (consZ 0 (consZ 0 (consZ 0 (consZ 0 (consZ 0 (consZ 0 (consZ 0 (consZ 0 (consZ 0 (consZ 0 (consZ 0 (consZ 0 (consZ 0 (consZ 0 (consZ 0 (consZ 0 (consZ 0 (consZ 0 (consZ 0 (consZ 0 (consZ 0 (consZ 0 (consZ 0 0)))))))))))))))))))))))))))))))) = chn (List.replicate 32 0) := rfl
 rw [e, rd_chn]
 generalize 32 = n
 simp only [List.getD_eq_getElem?_getD, List.getElem?_replicate]
 split <;> rfl
theorem bt_bd (Z : BitVec 32) (i : Nat) : 0 ≤ bt Z i ∧ bt Z i ≤ 1 := by unfold bt; split <;> omega
theorem bt_w (Z : BitVec 32) (i : Nat) : IntKind.wrap .i64 (bt Z i) = bt Z i := w64 (by have := bt_bd Z i; omega) (by have := bt_bd Z i; omega)
set_option maxRecDepth 100000 in
set_option maxHeartbeats 4000000 in
theorem holds (p0 p1 : Int) (l_p0 : -2147483648 ≤ p0) (u_p0 : p0 ≤ 2147483647) (l_p1 : -2147483648 ≤ p1) (u_p1 : p1 ≤ 2147483647) : P p0 p1 := by
 delta P Pb Pm Pn PL Pl W6 kZ z32
 simp only [nrm, nro, Int.reduceEq, Int.reduceNeg, reduceIte]
 have hn : 0 ≤ md32 p1 ∧ md32 p1 < 32 := by unfold md32; omega
 refine ⟨fun i o m => 0 ≤ i ∧ i ≤ 32 ∧ (∀ k : Nat, (k : Int) < i → IntKind.wrap .i64 (rdZ o ((k + md32 p1) % 32)) = bt (b32 p0) k) ∧ m = (32 - i).toNat, ⟨_, by omega, by omega, fun k hk => by omega, rfl⟩, fun i o m hb hI => ?_⟩
 obtain ⟨i0, i1, ho, rfl⟩ := hI
 have wm : BO.ev .rem .i64 (i + md32 p1) 32 = (i + md32 p1) % 32 := rem_pos (by omega)
 simp only [wm]
 refine ⟨fun h1 => ?_, fun h1 => ?_⟩
 ·rintro _ rfl _ _ rfl _
  refine ⟨by omega, _, ?_, by omega, by omega, fun k hk => ?_, rfl⟩
  ·omega
  ·rw [bits_rd _ _ (by omega) (by omega), bt_w, rdZ_upd]
   by_cases e : (k : Int) = i
   ·rw [if_pos (by omega), bt_w]; congr 1; omega
   ·rw [if_neg (by omega), ho k (by omega)]
 ·rintro _ rfl _
  refine Eq.trans (of_word (b32 p0 <<< (p1 % 32).toNat ||| b32 p0 >>> (32 - (p1 % 32).toNat)) (fun k : Nat => IntKind.wrap .i64 (rdZ o k)) fun j hj => ?_) (alu12 l_p0 u_p0 l_p1 u_p1).symm
  show IntKind.wrap .i64 (rdZ o j) = _
  have hq := ho (((j : Int) - md32 p1) % 32).toNat (by omega)
  have e : ((((((j : Int) - md32 p1) % 32).toNat : Nat) : Int) + md32 p1) % 32 = j := by omega
  rw [e] at hq
  rw [hq]
  unfold bt md32 at *
  simp only [BitVec.getLsbD_or, BitVec.getLsbD_shiftLeft, BitVec.getLsbD_ushiftRight]
  by_cases g : p1 % 32 ≤ j
  ·have e2 : ((j : Int) - p1 % 32) % 32 = j - p1 % 32 := by omega
   have e3 : ((j : Int) - p1 % 32).toNat = j - (p1 % 32).toNat := by omega
   rw [e2, e3, BitVec.getLsbD_of_ge _ (32 - (p1 % 32).toNat + j) (by omega)]
   simp [hj, show ¬ j < (p1 % 32).toNat by omega]
  ·have e2 : ((j : Int) - p1 % 32) % 32 = j - p1 % 32 + 32 := by omega
   have e3 : ((j : Int) - p1 % 32 + 32).toNat = 32 - (p1 % 32).toNat + j := by omega
   rw [e2, e3]
   simp [show j < (p1 % 32).toNat by omega]
theorem plain (i v ro p) : statR 2 rc tree ⟨i, fN, v, ro, p⟩ = P (i 0) (i 1) := by kernel_rfl
theorem ran : ranR us (fun _ _ => .auto) rc 2 tree = true := by kernel_rfl
theorem fineT : fineR 2 rc tree = true := by kernel_rfl
theorem ok : RcOk (cxOf 2) rc := okR us_ok ran fineT okb fun i v ro p hρ hcap hpre => by rw [plain]; have q := hρ.hi; exact holds (i 0) (i 1) (q 0 _ rfl).1 (q 0 _ rfl).2 (q 1 _ rfl).1 (q 1 _ rfl).2
end CRRol
namespace CRClz
def rc : Rc := ⟨100, [none], [.int .i32], [], .one, [.int .i32 (.f 63 (.c 24) (.v 0) (.c 0))]⟩
theorem okb : rc.ok = true := by kernel_rfl
noncomputable def us : SMs := fun Γ ins n => smH (cxG n Γ ins) [] (smR (cxG n Γ ins) [CRBits.rc])
theorem us_ok : SMsOk us := fun Γ ins n => smH_ok (tabsG n Γ ins) (rhs_nil _) (smR_ok (tabsG n Γ ins) (rcs_cons CRBits.okb (rc_n CRBits.ok) (rcs_nil _)))
def tree : TT (List E) :=
(.loop ⟨1000, [some (0, 1073741824), some (-4611686018427387904, 31)], [(.c 0), (.c 31)], 1003⟩
 (.br (.b .le .i64 (.c 0) (.cl 1001 (-4611686018427387904) 31))
 (.br (.b .eq .i64 (.w .i64 (.f 13 (.f 11 (.f 2 (.v 0) (.c 0) (.c 0)) (.f 11 (.f 2 (.v 0) (.c 1) (.c 0)) (.f 11 (.f 2 (.v 0) (.c 2) (.c 0)) (.f 11 (.f 2 (.v 0) (.c 3) (.c 0)) (.f 11 (.f 2 (.v 0) (.c 4) (.c 0)) (.f 11 (.f 2 (.v 0) (.c 5) (.c 0)) (.f 11 (.f 2 (.v 0) (.c 6) (.c 0)) (.f 11 (.f 2 (.v 0) (.c 7) (.c 0)) (.f 11 (.f 2 (.v 0) (.c 8) (.c 0)) (.f 11 (.f 2 (.v 0) (.c 9) (.c 0)) (.f 11 (.f 2 (.v 0) (.c 10) (.c 0)) (.f 11 (.f 2 (.v 0) (.c 11) (.c 0)) (.f 11 (.f 2 (.v 0) (.c 12) (.c 0)) (.f 11 (.f 2 (.v 0) (.c 13) (.c 0)) (.f 11 (.f 2 (.v 0) (.c 14) (.c 0)) (.f 11 (.f 2 (.v 0) (.c 15) (.c 0)) (.f 11 (.f 2 (.v 0) (.c 16) (.c 0)) (.f 11 (.f 2 (.v 0) (.c 17) (.c 0)) (.f 11 (.f 2 (.v 0) (.c 18) (.c 0)) (.f 11 (.f 2 (.v 0) (.c 19) (.c 0)) (.f 11 (.f 2 (.v 0) (.c 20) (.c 0)) (.f 11 (.f 2 (.v 0) (.c 21) (.c 0)) (.f 11 (.f 2 (.v 0) (.c 22) (.c 0)) (.f 11 (.f 2 (.v 0) (.c 23) (.c 0)) (.f 11 (.f 2 (.v 0) (.c 24) (.c 0)) (.f 11 (.f 2 (.v 0) (.c 25) (.c 0)) (.f 11 (.f 2 (.v 0) (.c 26) (.c 0)) (.f 11 (.f 2 (.v 0) (.c 27) (.c 0)) (.f 11 (.f 2 (.v 0) (.c 28) (.c 0)) (.f 11 (.f 2 (.v 0) (.c 29) (.c 0)) (.f 11 (.f 2 (.v 0) (.c 30) (.c 0)) (.f 11 (.f 2 (.v 0) (.c 31) (.c 0)) (.c 0) (.c 0)) (.c 0)) (.c 0)) (.c 0)) (.c 0)) (.c 0)) (.c 0)) (.c 0)) (.c 0)) (.c 0)) (.c 0)) (.c 0)) (.c 0)) (.c 0)) (.c 0)) (.c 0)) (.c 0)) (.c 0)) (.c 0)) (.c 0)) (.c 0)) (.c 0)) (.c 0)) (.c 0)) (.c 0)) (.c 0)) (.c 0)) (.c 0)) (.c 0)) (.c 0)) (.c 0)) (.c 0)) (.cl 1001 (-4611686018427387904) 31) (.c 0))) (.c 0))
 (.br (.b .le .i64 (.b .padd .i64 (.cl 1000 0 1073741824) (.c 1)) (.c 1073741824))
 (.br (.b .le .i64 (.c (-4611686018427387904)) (.b .psub .i64 (.cl 1001 (-4611686018427387904) 31) (.c 1)))
 (.back [(.b .padd .i64 (.cl 1000 0 1073741824) (.c 1)), (.b .psub .i64 (.cl 1001 (-4611686018427387904) 31) (.c 1))])
 (.bad 303))
 (.bad 303))
 (.exit 0))
 (.exit 1))
 (.br (.b .eq .i64 (.v 1003) (.c 0))
 (.leaf [(.cl 1000 0 1073741824)])
 (.leaf [(.cl 1000 0 1073741824)])))
def P (p0 : Int) : Prop :=
 ∃ I1000 : Int → Int → Nat → Prop, (∃ m, I1000 0 31 m) ∧
 ∀ y1000 y1001 : Int, ∀ m1000, ((0 ≤ y1000 ∧ y1000 ≤ 1073741824) ∧ ((-4611686018427387904) ≤ y1001 ∧ y1001 ≤ 31) ∧ True) → I1000 y1000 y1001 m1000 →
  (((bool01 (decide (0 ≤ y1001))) ≠ 0 →
   (((bool01 ((IntKind.wrap .i64 (rdZ (consZ (bitZ p0 0) (consZ (bitZ p0 1) (consZ (bitZ p0 2) (consZ (bitZ p0 3) (consZ (bitZ p0 4) (consZ (bitZ p0 5) (consZ (bitZ p0 6) (consZ (bitZ p0 7) (consZ (bitZ p0 8) (consZ (bitZ p0 9) (consZ (bitZ p0 10) (consZ (bitZ p0 11) (consZ (bitZ p0 12) (consZ (bitZ p0 13) (consZ (bitZ p0 14) (consZ (bitZ p0 15) (consZ (bitZ p0 16) (consZ (bitZ p0 17) (consZ (bitZ p0 18) (consZ (bitZ p0 19) (consZ (bitZ p0 20) (consZ (bitZ p0 21) (consZ (bitZ p0 22) (consZ (bitZ p0 23) (consZ (bitZ p0 24) (consZ (bitZ p0 25) (consZ (bitZ p0 26) (consZ (bitZ p0 27) (consZ (bitZ p0 28) (consZ (bitZ p0 29) (consZ (bitZ p0 30) (consZ (bitZ p0 31) 0)))))))))))))))))))))))))))))))) y1001)) == 0)) ≠ 0 →
    (((bool01 (decide ((y1000 + 1) ≤ 1073741824))) ≠ 0 →
     (((bool01 (decide ((-4611686018427387904) ≤ (y1001 - 1)))) ≠ 0 →
      ∃ m', m' < m1000 ∧ I1000 (y1000 + 1) (y1001 - 1) m') ∧ ((bool01 (decide ((-4611686018427387904) ≤ (y1001 - 1)))) = 0 →
      False))) ∧ ((bool01 (decide ((y1000 + 1) ≤ 1073741824))) = 0 →
     False))) ∧ ((bool01 ((IntKind.wrap .i64 (rdZ (consZ (bitZ p0 0) (consZ (bitZ p0 1) (consZ (bitZ p0 2) (consZ (bitZ p0 3) (consZ (bitZ p0 4) (consZ (bitZ p0 5) (consZ (bitZ p0 6) (consZ (bitZ p0 7) (consZ (bitZ p0 8) (consZ (bitZ p0 9) (consZ (bitZ p0 10) (consZ (bitZ p0 11) (consZ (bitZ p0 12) (consZ (bitZ p0 13) (consZ (bitZ p0 14) (consZ (bitZ p0 15) (consZ (bitZ p0 16) (consZ (bitZ p0 17) (consZ (bitZ p0 18) (consZ (bitZ p0 19) (consZ (bitZ p0 20) (consZ (bitZ p0 21) (consZ (bitZ p0 22) (consZ (bitZ p0 23) (consZ (bitZ p0 24) (consZ (bitZ p0 25) (consZ (bitZ p0 26) (consZ (bitZ p0 27) (consZ (bitZ p0 28) (consZ (bitZ p0 29) (consZ (bitZ p0 30) (consZ (bitZ p0 31) 0)))))))))))))))))))))))))))))))) y1001)) == 0)) = 0 →
    (((bool01 ((0 : Int) == 0)) ≠ 0 →
     (y1000 : Int) = (aluV 24 p0 0) ∧ True) ∧ ((bool01 ((0 : Int) == 0)) = 0 →
     (y1000 : Int) = (aluV 24 p0 0) ∧ True))))) ∧ ((bool01 (decide (0 ≤ y1001))) = 0 →
   (((bool01 ((1 : Int) == 0)) ≠ 0 →
    (y1000 : Int) = (aluV 24 p0 0) ∧ True) ∧ ((bool01 ((1 : Int) == 0)) = 0 →
    (y1000 : Int) = (aluV 24 p0 0) ∧ True))))
theorem bits_rdC (x : Int) (k : Int) (h0 : 0 ≤ k) (h : k < 32) : rdZ (consZ (bitZ x 0) (consZ (bitZ x 1) (consZ (bitZ x 2) (consZ (bitZ x 3) (consZ (bitZ x 4) (consZ (bitZ x 5) (consZ (bitZ x 6) (consZ (bitZ x 7) (consZ (bitZ x 8) (consZ (bitZ x 9) (consZ (bitZ x 10) (consZ (bitZ x 11) (consZ (bitZ x 12) (consZ (bitZ x 13) (consZ (bitZ x 14) (consZ (bitZ x 15) (consZ (bitZ x 16) (consZ (bitZ x 17) (consZ (bitZ x 18) (consZ (bitZ x 19) (consZ (bitZ x 20) (consZ (bitZ x 21) (consZ (bitZ x 22) (consZ (bitZ x 23) (consZ (bitZ x 24) (consZ (bitZ x 25) (consZ (bitZ x 26) (consZ (bitZ x 27) (consZ (bitZ x 28) (consZ (bitZ x 29) (consZ (bitZ x 30) (consZ (bitZ x 31) 0)))))))))))))))))))))))))))))))) k = bitZ x k := by
 have e : (consZ (bitZ x 0) (consZ (bitZ x 1) (consZ (bitZ x 2) (consZ (bitZ x 3) (consZ (bitZ x 4) (consZ (bitZ x 5) (consZ (bitZ x 6) (consZ (bitZ x 7) (consZ (bitZ x 8) (consZ (bitZ x 9) (consZ (bitZ x 10) (consZ (bitZ x 11) (consZ (bitZ x 12) (consZ (bitZ x 13) (consZ (bitZ x 14) (consZ (bitZ x 15) (consZ (bitZ x 16) (consZ (bitZ x 17) (consZ (bitZ x 18) (consZ (bitZ x 19) (consZ (bitZ x 20) (consZ (bitZ x 21) (consZ (bitZ x 22) (consZ (bitZ x 23) (consZ (bitZ x 24) (consZ (bitZ x 25) (consZ (bitZ x 26) (consZ (bitZ x 27) (consZ (bitZ x 28) (consZ (bitZ x 29) (consZ (bitZ x 30) (consZ (bitZ x 31) 0)))))))))))))))))))))))))))))))) = chn ((List.range 32).map fun i : Nat => bitZ x i) := rfl
 rw [e, show k = ((k.toNat : Nat) : Int) by omega, rd_chn]
 have hr : k.toNat < 32 := by omega
 simp only [List.getD_eq_getElem?_getD, List.getElem?_map, List.getElem?_range hr, Option.map_some, Option.getD_some, Int.toNat_natCast]
theorem bitLen_is (i : Nat) (X : Nat) (h1 : 2 ^ i ≤ X) (h2 : X < 2 ^ (i + 1)) (hi : i ≤ 31) : Lib.bitLen X = i + 1 := by
 induction i generalizing X with
 | zero => have : X = 1 := by omega
           subst this; decide
 | succ i ih =>
  have hp : 2 ^ (i + 1) = 2 ^ i * 2 := Nat.pow_succ ..
  have hp2 : 2 ^ (i + 1 + 1) = 2 ^ (i + 1) * 2 := Nat.pow_succ ..
  have h64 : X < 2 ^ 64 := Nat.lt_of_lt_of_le h2 (Nat.pow_le_pow_right (by decide) (by omega))
  rw [Lib.bitLen_half X (by have := Nat.two_pow_pos i; omega) h64, ih (X / 2) (by omega) (by omega) (by omega)]
  omega
theorem alu24 {x n : Int} (x1 : -2147483648 ≤ x) (x2 : x ≤ 2147483647) : aluV 24 x 0 = 32 - (Lib.bitLen (x % 4294967296).toNat : Int) := by
 rw [aluV_of (aluP_9 (by decide) (by decide) (by decide) (by decide)) x1 x2 (by decide) (by decide)]
 unfold aluX
 simp only [Int.reduceEq, if_false, if_true]
 rw [wu32, show x % 4294967296 % 4294967296 = x % 4294967296 by omega]
set_option maxRecDepth 100000 in
theorem holds (p0 : Int) (l_p0 : -2147483648 ≤ p0) (u_p0 : p0 ≤ 2147483647) : P p0 := by
 unfold P
 simp only [nrm, nro, Int.reduceEq, Int.reduceNeg, reduceIte]
 have hX : (p0 % 4294967296).toNat < 2 ^ 32 := by have : (2 : Nat) ^ 32 = 4294967296 := by decide
                                                  omega
 rw [alu24 (n := 0) l_p0 u_p0]
 have hb : ∀ i : Int, bitZ p0 i = (((p0 % 4294967296).toNat / 2 ^ i.toNat % 2 : Nat) : Int) := by
  intro i
  unfold bitZ
  push_cast
  rw [Int.toNat_of_nonneg (by omega)]
 generalize (p0 % 4294967296).toNat = X at *
 refine ⟨fun n i m => -1 ≤ i ∧ n = 31 - i ∧ X < 2 ^ (i + 1).toNat ∧ m = (i + 1).toNat, ⟨_, by omega, by omega, hX, rfl⟩, fun n i m hB hI => ?_⟩
 obtain ⟨h1, rfl, h2, rfl⟩ := hI
 refine ⟨fun h3 => ?_, fun h3 => ?_⟩
 ·rw [bits_rdC p0 i (by omega) (by omega), hb]
  have e : (i + 1).toNat = i.toNat + 1 := by omega
  rw [e] at h2
  have hp : 2 ^ (i.toNat + 1) = 2 ^ i.toNat * 2 := Nat.pow_succ ..
  have hq := Nat.two_pow_pos i.toNat
  have hm : X / 2 ^ i.toNat < 2 := Nat.div_lt_of_lt_mul (by omega)
  have hw : X / 2 ^ i.toNat % 2 = X / 2 ^ i.toNat := Nat.mod_eq_of_lt hm
  rw [hw, w64 (by omega) (by omega)]
  refine ⟨fun h4 => ⟨by omega, by omega, _, ?_, by omega, by omega, ?_, rfl⟩, fun h4 => ?_⟩
  ·omega
  ·rw [show (i - 1 + 1).toNat = i.toNat by omega]
   have h5 : X / 2 ^ i.toNat = 0 := by omega
   rcases Nat.lt_or_ge X (2 ^ i.toNat) with g | g
   ·exact g
   ·have := Nat.div_pos g hq; omega
  ·have h5 : 2 ^ i.toNat ≤ X := by
    rcases Nat.lt_or_ge X (2 ^ i.toNat) with g | g
    ·rw [Nat.div_eq_of_lt g] at h4; exact absurd rfl h4
    ·exact g
   have := bitLen_is i.toNat X h5 h2 (by omega)
   omega
 ·have e : i = -1 := by omega
  subst e
  have : X = 0 := by simpa using h2
  subst this
  decide
theorem plain (i v ro p) : statR 2 rc tree ⟨i, fN, v, ro, p⟩ = P (i 0) := by kernel_rfl
theorem ran : ranR us (fun _ _ => .auto) rc 2 tree = true := by kernel_rfl
theorem fineT : fineR 2 rc tree = true := by kernel_rfl
theorem ok : RcOk (cxOf 2) rc := okR us_ok ran fineT okb fun i v ro p hρ hcap hpre => by rw [plain]; have q := hρ.hi; exact holds (i 0) (q 0 _ rfl).1 (q 0 _ rfl).2
end CRClz
end Go.Proofs.YtemcjakecoceaaaGreatDoor
