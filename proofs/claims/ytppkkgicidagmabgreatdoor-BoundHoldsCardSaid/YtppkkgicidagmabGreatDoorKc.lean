/-
  What functions of the program answer, as numbers of what they are handed: their runs by the engine, the plain statements behind them. No condition.
-/
import Derived.Test.YtppkkgicidagmabGreatDoorKb
import Derived.Test.YtppkkgicidagmabGreatDoorGab
import Derived.Test.YtppkkgicidagmabGreatDoorGp2
import Derived.Test.YtppkkgicidagmabGreatDoorGib
set_option linter.unusedVariables false
set_option linter.unusedSimpArgs false
set_option maxRecDepth 100000
namespace Go.Proofs.YtppkkgicidagmabGreatDoor
open Go.Eng Go.RowKit
namespace CCNew
def rk : Rk := ⟨7, [(0, 16384), (0, 2048)], 6, [.sl (.inp 0) 1 (.c 0) (.v 0) (some (.v 4)), .sl (.inp 1) 1 (.c 0) (.v 1) (some (.v 5))], [], [], .tup [.ptr 0 0, .int .i64 (.c 0)], [.cells [.ptr 1 0, .sl (.own 2) 6 (.c 0) (.v 1000000) none, .int .i32 (.c 0), .int .i32 (.c 0), .int .i32 (.c 0), .int .i32 (.c 0), .int .i32 (.c 0), .int .i32 (.c 0), .int .i32 (.c 0), .int .i32 (.c 0), .int .i32 (.c 0), .int .i32 (.c 0), .int .i32 (.c 0), .int .i32 (.c 0), .int .i32 (.c 0), .int .i32 (.c 0), .int .i32 (.c 0), .int .i32 (.c 0), .int .i32 (.c 0), .int .i32 (.c 0), .int .i32 (.c 0), .int .i32 (.c 0), .int .i32 (.c 0), .int .i32 (.c 0), .int .i32 (.c 0), .int .i32 (.c 0), .int .i32 (.c 0), .int .i32 (.c 0), .int .i32 (.c 0), .int .i32 (.c 0), .int .i32 (.c 0), .int .i32 (.c 0), .int .i32 (.c 0), .int .i32 (.c 0), .int .i64 (.c 0), .int .i64 (.c 0), .int .i64 (.c 0), .lit (.slice none 0 0)] 46 none, .cells [.sl (.own 3) 1 (.c 0) (.v 1) none, .bool (.c 1)] 69 none, .arr [.int .i64, .int .i64, .int .i64, .int .i64, .int .i64, .bool] 52 (.v 1000001) (.v 1000000), .arr [.int .i32] 21 (.v 1000002) (.v 1)], [.num (.v 0), .code [.int .i64, .int .i64, .int .i64, .int .i64, .int .i64, .bool] (.f 88 (.v 2) (.v 0) (.c 0)) (.v 0), .code [.int .i32] (.v 3) (.v 1)], [⟨[.int .u32], (.v 2), (.v 0), (.v 4), none⟩, ⟨[.int .i32], (.v 3), (.v 1), (.v 5), none⟩]⟩
theorem okk : rk.ok = true := by kernel_rfl
theorem okh : rk.rh.ok = true := by kernel_rfl
noncomputable def us : SMs := fun Γ ins n => smH (cxG n Γ ins) [] (smR (cxG n Γ ins) [CCDec.rc])
theorem us_ok : SMsOk us := fun Γ ins n => smH_ok (tabsG n Γ ins) (qKh _) (smR_ok (tabsG n Γ ins) (qJv CCDec.okb (rc_n CCDec.ok) (qKi _)))
def Q0 : E := (.cl 1000 0 4611686018427387904)
def Q1 : E := (tR (.v 2) Q0)
def Q2 : E := (.w .u32 Q1)
def Q3 : E := (.cl 1002 0 1000000)
def Q4 : E := (tp Q3 (.c 1))
def Q5 : E := (tl Q4 (.c 1000000))
def Q6 : E := (tp Q0 (.c 1))
def tree : TT (List E) :=
 (.loop ⟨1000, [some (0, 4611686018427387904), none, some (0, 1000000)], [(.c 0), (.c 0), (.c 0)], 1010⟩ (.br (tk Q0 (.v 0)) (.new 1004 (.f 67 Q2 (.c 0) (.c 0)) (.new 1005 (.f 67 Q2 (.c 1) (.c 0)) (.new 1006 (.f 67 Q2 (.c 2) (.c 0)) (.new 1007 (.f 67 Q2 (.c 3) (.c 0)) (.new 1008 (.f 67 Q2 (.c 4) (.c 0)) (.new 1009 (.f 67 Q2 (.c 5) (.c 0)) (.br Q5 (.br (tl Q6 (.c 4611686018427387904)) (.br Q5 (.back [Q6, (.f 14 (.v 1001) Q3 (tC (.cl 1004 (-32768) 65535) (tC (.cl 1005 (-32768) 65535) (tC (.cl 1006 (-32768) 65535) (tC (.cl 1007 (-32768) 65535) (tC (.cl 1008 (-32768) 65535) (tC (te (.cl 1009 (-32768) 65535) (.c 0)) (.c 0)))))))), Q4]) (.bad 303)) (.bad 303)) (.bad 200)))))))) (.exit 0)) (.leaf [Q3, (.v 1001), (.v 3)]))
def P (a b c d e f : Int) : Prop :=
 ∃ I1000 : Int → Int → Int → Nat → Prop, (∃ m, I1000 0 0 0 m) ∧ ∀ y0 y1 y2 : Int, ∀ m0, ((0 ≤ y0 ∧ y0 ≤ 4611686018427387904) ∧ True ∧ (0 ≤ y2 ∧ y2 ≤ 1000000) ∧ True) → I1000 y0 y1 y2 m0 → (Pb (Pl y0 a) (Pn (decZ (U3 (rdZ c y0)) 0) (-32768) 65535 fun y4 => Pn (decZ (U3 (rdZ c y0)) 1) (-32768) 65535 fun y5 => Pn (decZ (U3 (rdZ c y0)) 2) (-32768) 65535 fun y6 => Pn (decZ (U3 (rdZ c y0)) 3) (-32768) 65535 fun y7 => Pn (decZ (U3 (rdZ c y0)) 4) (-32768) 65535 fun y8 => Pn (decZ (U3 (rdZ c y0)) 5) (-32768) 65535 fun y9 => (Pm (PL (y2 + 1) 1000000) (Pm (PL (y0 + 1) 4611686018427387904) (Pm (PL (y2 + 1) 1000000) (∃ m', m' < m0 ∧ I1000 (y0 + 1) (updZ y1 y2 (kZ y4 (kZ y5 (kZ y6 (kZ y7 (kZ y8 (kZ (Pe y9 0) 0))))))) (y2 + 1) m'))))) ((y2 : Int) = a ∧ qZz [.int .i64, .int .i64, .int .i64, .int .i64,
 .int .i64, .bool] y1 (decW c a) a ∧ qZz [.int .i32] d d b ∧ True))
theorem holds (nc nr wq rm rW rD : Int) (l_nc : 0 ≤ nc) (u_nc : nc ≤ 16384) (l_nr : 0 ≤ nr) (u_nr : nr ≤ 2048) : P nc nr wq rm rW rD := by
 delta P Pb Pm Pn PL Pl Pe U3 kZ
 simp only [nrm, nro, Int.reduceEq, Int.reduceNeg, reduceIte]
 refine ⟨fun i q n m => n = i ∧ i ≤ nc ∧ q = decC wq i.toNat ∧ m = (nc - i).toNat, ⟨_, rfl, l_nc, rfl, rfl⟩, fun i q n m hb hI => ?_⟩
 obtain ⟨rfl, hi, rfl, rfl⟩ := hI
 refine ⟨fun h => ?_, fun h => ?_⟩
 ·rintro _ rfl _ _ rfl _ _ rfl _ _ rfl _ _ rfl _ _ rfl _
  refine ⟨by omega, by omega, by omega, _, ?_, rfl, by omega, ?_, rfl⟩
  ·omega
  ·rw [show (n + 1).toNat = n.toNat + 1 by omega, decC, show ((n.toNat : Nat) : Int) = n by omega]
   rfl
 ·rw [show n = nc by omega]
  exact ⟨rfl, qJy _ _ _, qJy _ _ _⟩
theorem plain (i v ro p) : statH 2 rk tree ⟨i, fN, v, ro, p⟩ = P (i 0) (i 1) (i 2) (i 3) (i 4) (i 5) := by kernel_rfl
theorem ran : ranH us (fun _ _ => .auto) rk 2 tree = true := by kernel_rfl
theorem fineT : fineH 2 rk tree = true := by kernel_rfl
theorem ok : RhOk (cxOf 2) rk.rh := okH us_ok ran fineT (by kernel_rfl) okk fun i v ro p hρ hpre => by rw [plain]; have q := hρ.hi; exact holds _ _ _ _ _ _ (q 0 _ rfl).1 (q 0 _ rfl).2 (q 1 _ rfl).1 (q 1 _ rfl).2
end CCNew
namespace CADo
def rc : Rc := ⟨41, [none, none, none], [.int .i64, .int .i32, .int .i32], [], .tup [none, none], [.int .i32 (.f 63 (.v 0) (.v 1) (.v 2)), .bool (.f 64 (.v 0) (.v 1) (.v 2))]⟩
theorem okb : rc.ok = true := by kernel_rfl
noncomputable def us : SMs := fun Γ ins n => smH (cxG n Γ ins) [] (smAnd 116 (libLen32 Γ ins n) (smR (cxG n Γ ins) []))
theorem us_ok : SMsOk us := fun Γ ins n => smH_ok (tabsG n Γ ins) (qKh _) (smAnd_ok (libLen32_ok Γ ins n) (smR_ok (tabsG n Γ ins) (qKi _)))
def Q0 : E := (tp (.v 1) (.v 2))
def Q1 : E := (.b .psub .i64 (.v 1) (.v 2))
def Q2 : E := (.b .and .i32 (.v 2) (.c 31))
def Q3 : E := (.b .and .u64 Q2 (.c 31))
def Q4 : E := (.b .pmul .i64 (.v 1) (.v 2))
def Q5 : E := (.b .psub .i64 (.c 0) (.v 1))
def Q6 : E := (.b .min .i64 Q5 (.c 2147483647))
def tree : TT (List E) :=
 (.br (te (.v 0) (.c 1)) (.leaf [(t3 Q0), (.c 1)]) (.br (te (.v 0) (.c 2)) (.leaf [(t3 Q1), (.c 1)]) (.br (te (.v 0) (.c 3)) (.leaf [(.b .min .i64 (.b .max .i64 Q0 (.c (-2147483648))) (.c 2147483647)), (.c 1)]) (.br (te (.v 0) (.c 4)) (.leaf [(.b .min .i64 (.b .max .i64 Q1 (.c (-2147483648))) (.c 2147483647)), (.c 1)]) (.br (te (.v 0) (.c 5)) (.leaf [(.b .and .i32 (.v 1) (.v 2)), (.c 1)]) (.br (te (.v 0) (.c 6)) (.leaf [(.b .or .i32 (.v 1) (.v 2)), (.c 1)]) (.br (te (.v 0) (.c 7)) (.leaf [(.b .xor .i32 (.v 1) (.v 2)), (.c 1)]) (.br (te (.v 0) (.c 8)) (.leaf [(.b .andNot .i32 (.v 1) (.v 2)), (.c 1)]) (.br (te (.v 0) (.c 9)) (.leaf [(t3 (.b .shl .u32 (.w .u32 (.v 1)) Q2)), (.c 1)]) (.br (te (.v 0) (.c 10)) (.leaf [(t3 (.b .shr .u32 (.w .u32 (.v 1)) Q2)), (.c 1)]) (.br (te (.v 0) (.c 11))
 (.leaf [(.b .shr .i32 (.v 1) Q2), (.c 1)]) (.br (te (.v 0) (.c 12)) (.leaf [(t3 (.b .or .u32 (.b .shl .u32 (.w .u32 (.v 1)) Q3) (.b .shr .u32 (.w .u32 (.v 1)) (.b .psub .i64 (.c 32) Q3)))), (.c 1)]) (.br (te (.v 0) (.c 13)) (.br (tk (.v 1) (.v 2)) (.leaf [(.c 1), (.c 1)]) (.leaf [(.c 0), (.c 1)])) (.br (te (.v 0) (.c 14)) (.br (tk (.w .u32 (.v 1)) (.w .u32 (.v 2))) (.leaf [(.c 1), (.c 1)]) (.leaf [(.c 0), (.c 1)])) (.br (te (.v 0) (.c 15)) (.br (te (.v 1) (.v 2)) (.leaf [(.c 1), (.c 1)]) (.leaf [(.c 0), (.c 1)])) (.br (te (.v 0) (.c 16)) (.leaf [(.b .min .i64 (.v 1) (.v 2)), (.c 1)]) (.br (te (.v 0) (.c 17)) (.leaf [(.b .max .i64 (.v 1) (.v 2)), (.c 1)]) (.br (te (.v 0) (.c 18)) (.leaf [(t3 Q4), (.c 1)]) (.br (te (.v 0) (.c 19)) (.leaf [(.b .shr .i64 Q4 (.c 32)), (.c 1)]) (.br (te (.v 0)
 (.c 20)) (.leaf [(.b .min .i64 (.b .max .i64 (tp (.b .shr .i64 Q4 (.c 30)) (.b .and .i64 (.b .shr .i64 Q4 (.c 29)) (.c 1))) (.c (-2147483648))) (.c 2147483647)), (.c 1)]) (.br (te (.v 0) (.c 21)) (.leaf [(.b .min .i64 (.b .max .i64 (tp (.b .shr .i64 Q4 (.c 16)) (.b .and .i64 (.b .shr .i64 Q4 (.c 15)) (.c 1))) (.c (-2147483648))) (.c 2147483647)), (.c 1)]) (.br (te (.v 0) (.c 22)) (.br (te (.v 2) (.c 0)) (.leaf [(.c 0), (.c 0)]) (.leaf [(t3 (.b .quo .i64 (.v 1) (.v 2))), (.c 1)])) (.br (te (.v 0) (.c 23)) (.br (te (.v 2) (.c 0)) (.leaf [(.c 0), (.c 0)]) (.leaf [(t3 (.b .psub .i64 (.v 1) (t6 (.b .pmul .i64 (.b .quo .i64 (.v 1) (.v 2)) (.v 2))))), (.c 1)])) (.br (te (.v 0) (.c 24)) (.leaf [(.b .psub .i64 (.c 32) (.f 0 (.w .u32 (.v 1)) (.c 0) (.c 0))), (.c 1)]) (.br (te (.v 0) (.c 25))
 (.leaf [Q6, (.c 1)]) (.br (te (.v 0) (.c 26)) (.leaf [(.b .max .i64 (.v 1) Q6), (.c 1)]) (.br (te (.v 0) (.c 27)) (.br (tn (.v 1) (.c 0)) (.leaf [(.c (-1)), (.c 1)]) (.leaf [(.c 0), (.c 1)])) (.br (te (.v 0) (.c 28)) (.leaf [(.b .shr .i32 (.v 1) (.c 31)), (.c 1)]) (.br (te (.v 0) (.c 29)) (.leaf [(.w .i16 (.v 1)), (.c 1)]) (.br (te (.v 0) (.c 30)) (.leaf [(.b .shr .i32 (.v 1) (.c 16)), (.c 1)]) (.leaf [(.c 0), (.c 0)])))))))))))))))))))))))))))))))
def sL0 (a b c z0 : Int) : Prop := (z0 : Int) = (aluV a b c) ∧ ((1 : Int) ≠ 0 ↔ ((aluK a b c) : Int) ≠ 0) ∧ True
def P (a b c : Int) : Prop :=
 (Pb (Pe a 1) (((W3 (b + c)) : Int) = (aluV a b c) ∧ ((1 : Int) ≠ 0 ↔ ((aluK a b c) : Int) ≠ 0) ∧ True) (Pb (Pe a 2) (((W3 (b - c)) : Int) = (aluV a b c) ∧ ((1 : Int) ≠ 0 ↔ ((aluK a b c) : Int) ≠ 0) ∧ True) (Pb (Pe a 3) (((sat32 (b + c)) : Int) = (aluV a b c) ∧ ((1 : Int) ≠ 0 ↔ ((aluK a b c) : Int) ≠ 0) ∧ True) (Pb (Pe a 4) (((sat32 (b - c)) : Int) = (aluV a b c) ∧ ((1 : Int) ≠ 0 ↔ ((aluK a b c) : Int) ≠ 0) ∧ True) (Pb (Pe a 5) (((band .i32 b c) : Int) = (aluV a b c) ∧ ((1 : Int) ≠ 0 ↔ ((aluK a b c) : Int) ≠ 0) ∧ True) (Pb (Pe a 6) (((bor .i32 b c) : Int) = (aluV a b c) ∧ ((1 : Int) ≠ 0 ↔ ((aluK a b c) : Int) ≠ 0) ∧ True) (Pb (Pe a 7) (((bxor .i32 b c) : Int) = (aluV a b c) ∧ ((1 : Int) ≠ 0 ↔ ((aluK a b c) : Int) ≠ 0) ∧ True) (Pb (Pe a 8) (((bandn .i32 b c) : Int) = (aluV a b c) ∧ ((1 :
 Int) ≠ 0 ↔ ((aluK a b c) : Int) ≠ 0) ∧ True) (Pb (Pe a 9) (sL0 a b c (W3 (shlZ .u32 (U3 b) (band .i32 c 31)))) (Pb (Pe a 10) (sL0 a b c (W3 (shrZ .u32 (U3 b) (band .i32 c 31)))) (Pb (Pe a 11) (((shrZ .i32 b (band .i32 c 31)) : Int) = (aluV a b c) ∧ ((1 : Int) ≠ 0 ↔ ((aluK a b c) : Int) ≠ 0) ∧ True) (Pb (Pe a 12) (sL0 a b c (W3 (bor .u32 (shlZ .u32 (U3 b) (band .u64 (band .i32 c 31) 31)) (shrZ .u32 (U3 b) (32 - (band .u64 (band .i32 c 31) 31)))))) (Pb (Pe a 13) (Pb (Pl b c) ((1 : Int) = (aluV a b c) ∧ ((1 : Int) ≠ 0 ↔ ((aluK a b c) : Int) ≠ 0) ∧ True) ((0 : Int) = (aluV a b c) ∧ ((1 : Int) ≠ 0 ↔ ((aluK a b c) : Int) ≠ 0) ∧ True)) (Pb (Pe a 14) (Pb (Pl (U3 b) (U3 c)) ((1 : Int) = (aluV a b c) ∧ ((1 : Int) ≠ 0 ↔ ((aluK a b c) : Int) ≠ 0) ∧ True) ((0 : Int) = (aluV a b c) ∧ ((1 : Int) ≠ 0 ↔
 ((aluK a b c) : Int) ≠ 0) ∧ True)) (Pb (Pe a 15) (Pb (Pe b c) ((1 : Int) = (aluV a b c) ∧ ((1 : Int) ≠ 0 ↔ ((aluK a b c) : Int) ≠ 0) ∧ True) ((0 : Int) = (aluV a b c) ∧ ((1 : Int) ≠ 0 ↔ ((aluK a b c) : Int) ≠ 0) ∧ True)) (Pb (Pe a 16) (((minZ b c) : Int) = (aluV a b c) ∧ ((1 : Int) ≠ 0 ↔ ((aluK a b c) : Int) ≠ 0) ∧ True) (Pb (Pe a 17) (((maxZ b c) : Int) = (aluV a b c) ∧ ((1 : Int) ≠ 0 ↔ ((aluK a b c) : Int) ≠ 0) ∧ True) (Pb (Pe a 18) (((W3 (b * c)) : Int) = (aluV a b c) ∧ ((1 : Int) ≠ 0 ↔ ((aluK a b c) : Int) ≠ 0) ∧ True) (Pb (Pe a 19) (((shrZ .i64 (b * c) 32) : Int) = (aluV a b c) ∧ ((1 : Int) ≠ 0 ↔ ((aluK a b c) : Int) ≠ 0) ∧ True) (Pb (Pe a 20) (sL0 a b c (sat32 ((shrZ .i64 (b * c) 30) + (band .i64 (shrZ .i64 (b * c) 29) 1)))) (Pb (Pe a 21) (sL0 a b c (sat32 ((shrZ .i64 (b * c) 16) +
 (band .i64 (shrZ .i64 (b * c) 15) 1)))) (Pb (Pe a 22) (Pb (Pe c 0) ((0 : Int) = (aluV a b c) ∧ ((0 : Int) ≠ 0 ↔ ((aluK a b c) : Int) ≠ 0) ∧ True) (((W3 (BO.ev .quo .i64 b c)) : Int) = (aluV a b c) ∧ ((1 : Int) ≠ 0 ↔ ((aluK a b c) : Int) ≠ 0) ∧ True)) (Pb (Pe a 23) (Pb (Pe c 0) ((0 : Int) = (aluV a b c) ∧ ((0 : Int) ≠ 0 ↔ ((aluK a b c) : Int) ≠ 0) ∧ True) (sL0 a b c (W3 (b - (W6 ((BO.ev .quo .i64 b c) * c)))))) (Pb (Pe a 24) (((32 - (blen (U3 b))) : Int) = (aluV a b c) ∧ ((1 : Int) ≠ 0 ↔ ((aluK a b c) : Int) ≠ 0) ∧ True) (Pb (Pe a 25) (((minZ (0 - b) 2147483647) : Int) = (aluV a b c) ∧ ((1 : Int) ≠ 0 ↔ ((aluK a b c) : Int) ≠ 0) ∧ True) (Pb (Pe a 26) (((maxZ b (minZ (0 - b) 2147483647)) : Int) = (aluV a b c) ∧ ((1 : Int) ≠ 0 ↔ ((aluK a b c) : Int) ≠ 0) ∧ True) (Pb (Pe a 27) (Pb (Pd b 0)
 (((-1) : Int) = (aluV a b c) ∧ ((1 : Int) ≠ 0 ↔ ((aluK a b c) : Int) ≠ 0) ∧ True) ((0 : Int) = (aluV a b c) ∧ ((1 : Int) ≠ 0 ↔ ((aluK a b c) : Int) ≠ 0) ∧ True)) (Pb (Pe a 28) (((shrZ .i32 b 31) : Int) = (aluV a b c) ∧ ((1 : Int) ≠ 0 ↔ ((aluK a b c) : Int) ≠ 0) ∧ True) (Pb (Pe a 29) (((IntKind.wrap .i16 b) : Int) = (aluV a b c) ∧ ((1 : Int) ≠ 0 ↔ ((aluK a b c) : Int) ≠ 0) ∧ True) (Pb (Pe a 30) (((shrZ .i32 b 16) : Int) = (aluV a b c) ∧ ((1 : Int) ≠ 0 ↔ ((aluK a b c) : Int) ≠ 0) ∧ True) ((0 : Int) = (aluV a b c) ∧ ((0 : Int) ≠ 0 ↔ ((aluK a b c) : Int) ≠ 0) ∧ True)))))))))))))))))))))))))))))))
theorem holds (p0 p1 p2 : Int) (l_p0 : -9223372036854775808 ≤ p0) (u_p0 : p0 ≤ 9223372036854775807) (l_p1 : -2147483648 ≤ p1) (u_p1 : p1 ≤ 2147483647) (l_p2 : -2147483648 ≤ p2) (u_p2 : p2 ≤ 2147483647) : P p0 p1 p2 := by
 delta P sL0 Pb Pl Pe Pd W6 W3 U3
 simp only [nrm, Int.reduceEq, Int.reduceNeg, reduceIte]
 have hv : ∀ x op, aluP op p2 → x = aluX op p1 p2 → (x = aluV op p1 p2 ∧ ¬ aluK op p1 p2 = 0) := fun x op h e =>
  ⟨by rw [aluV_of h l_p1 u_p1 l_p2 u_p2, e], aluK_ne.2 h⟩
 have hn : ∀ op, ¬ aluP op p2 → ((0 : Int) = aluV op p1 p2 ∧ aluK op p1 p2 = 0) := fun op h => ⟨(aluV_no h).symm, by unfold aluK; rw [if_neg h]⟩
 refine ⟨fun h => ?_, fun h1 => ?_⟩
 ·subst h; exact hv _ _ (by unfold aluP; omega) (by unfold aluX; simp only [Int.reduceEq, if_false, if_true]; all_goals rfl)
 refine ⟨fun h => ?_, fun h2 => ?_⟩
 ·subst h; exact hv _ _ (by unfold aluP; omega) (by unfold aluX; simp only [Int.reduceEq, if_false, if_true]; all_goals rfl)
 refine ⟨fun h => ?_, fun h3 => ?_⟩
 ·subst h; exact hv _ _ (by unfold aluP; omega) (by unfold aluX; simp only [Int.reduceEq, if_false, if_true]; all_goals rfl)
 refine ⟨fun h => ?_, fun h4 => ?_⟩
 ·subst h; exact hv _ _ (by unfold aluP; omega) (by unfold aluX; simp only [Int.reduceEq, if_false, if_true]; all_goals rfl)
 refine ⟨fun h => ?_, fun h5 => ?_⟩
 ·subst h; exact hv _ _ (by unfold aluP; omega) (by unfold aluX; simp only [Int.reduceEq, if_false, if_true]; all_goals rfl)
 refine ⟨fun h => ?_, fun h6 => ?_⟩
 ·subst h; exact hv _ _ (by unfold aluP; omega) (by unfold aluX; simp only [Int.reduceEq, if_false, if_true]; all_goals rfl)
 refine ⟨fun h => ?_, fun h7 => ?_⟩
 ·subst h; exact hv _ _ (by unfold aluP; omega) (by unfold aluX; simp only [Int.reduceEq, if_false, if_true]; all_goals rfl)
 refine ⟨fun h => ?_, fun h8 => ?_⟩
 ·subst h; exact hv _ _ (by unfold aluP; omega) (by unfold aluX; simp only [Int.reduceEq, if_false, if_true]; all_goals rfl)
 refine ⟨fun h => ?_, fun h9 => ?_⟩
 ·subst h; exact hv _ _ (by unfold aluP; omega) (by unfold aluX; simp only [Int.reduceEq, if_false, if_true]; all_goals rfl)
 refine ⟨fun h => ?_, fun h10 => ?_⟩
 ·subst h; exact hv _ _ (by unfold aluP; omega) (by unfold aluX; simp only [Int.reduceEq, if_false, if_true]; all_goals rfl)
 refine ⟨fun h => ?_, fun h11 => ?_⟩
 ·subst h; exact hv _ _ (by unfold aluP; omega) (by unfold aluX; simp only [Int.reduceEq, if_false, if_true]; all_goals rfl)
 refine ⟨fun h => ?_, fun h12 => ?_⟩
 ·subst h; exact hv _ _ (by unfold aluP; omega) (by unfold aluX; simp only [Int.reduceEq, if_false, if_true]; all_goals rfl)
 refine ⟨fun h => ?_, fun h13 => ?_⟩
 ·subst h; exact ⟨fun g => hv _ _ (by unfold aluP; omega) (by unfold aluX; simp only [Int.reduceEq, if_false, if_true]; rw [if_pos g]), fun g => hv _ _ (by unfold aluP; omega) (by unfold aluX; simp only [Int.reduceEq, if_false, if_true]; rw [if_neg (by omega)])⟩
 refine ⟨fun h => ?_, fun h14 => ?_⟩
 ·subst h; exact ⟨fun g => hv _ _ (by unfold aluP; omega) (by unfold aluX; simp only [Int.reduceEq, if_false, if_true]; rw [if_pos g]), fun g => hv _ _ (by unfold aluP; omega) (by unfold aluX; simp only [Int.reduceEq, if_false, if_true]; rw [if_neg (by omega)])⟩
 refine ⟨fun h => ?_, fun h15 => ?_⟩
 ·subst h; exact ⟨fun g => hv _ _ (by unfold aluP; omega) (by unfold aluX; simp only [Int.reduceEq, if_false, if_true]; rw [if_pos g]), fun g => hv _ _ (by unfold aluP; omega) (by unfold aluX; simp only [Int.reduceEq, if_false, if_true]; rw [if_neg (by omega)])⟩
 refine ⟨fun h => ?_, fun h16 => ?_⟩
 ·subst h; exact hv _ _ (by unfold aluP; omega) (by unfold aluX; simp only [Int.reduceEq, if_false, if_true]; all_goals rfl)
 refine ⟨fun h => ?_, fun h17 => ?_⟩
 ·subst h; exact hv _ _ (by unfold aluP; omega) (by unfold aluX; simp only [Int.reduceEq, if_false, if_true]; all_goals rfl)
 refine ⟨fun h => ?_, fun h18 => ?_⟩
 ·subst h; exact hv _ _ (by unfold aluP; omega) (by unfold aluX; simp only [Int.reduceEq, if_false, if_true]; all_goals rfl)
 refine ⟨fun h => ?_, fun h19 => ?_⟩
 ·subst h; exact hv _ _ (by unfold aluP; omega) (by unfold aluX; simp only [Int.reduceEq, if_false, if_true]; all_goals rfl)
 refine ⟨fun h => ?_, fun h20 => ?_⟩
 ·subst h; exact hv _ _ (by unfold aluP; omega) (by unfold aluX; simp only [Int.reduceEq, if_false, if_true]; all_goals rfl)
 refine ⟨fun h => ?_, fun h21 => ?_⟩
 ·subst h; exact hv _ _ (by unfold aluP; omega) (by unfold aluX; simp only [Int.reduceEq, if_false, if_true]; all_goals rfl)
 refine ⟨fun h => ?_, fun h22 => ?_⟩
 ·subst h; exact ⟨fun g => hn _ (by unfold aluP; omega), fun g => hv _ _ (by unfold aluP; omega) (by unfold aluX; simp only [Int.reduceEq, if_false, if_true])⟩
 refine ⟨fun h => ?_, fun h23 => ?_⟩
 ·subst h; exact ⟨fun g => hn _ (by unfold aluP; omega), fun g => hv _ _ (by unfold aluP; omega) (by unfold aluX; simp only [Int.reduceEq, if_false, if_true])⟩
 refine ⟨fun h => ?_, fun h24 => ?_⟩
 ·subst h; exact hv _ _ (by unfold aluP; omega) (by unfold aluX; simp only [Int.reduceEq, if_false, if_true]; all_goals rfl)
 refine ⟨fun h => ?_, fun h25 => ?_⟩
 ·subst h; exact hv _ _ (by unfold aluP; omega) (by unfold aluX; simp only [Int.reduceEq, if_false, if_true]; all_goals rfl)
 refine ⟨fun h => ?_, fun h26 => ?_⟩
 ·subst h; exact hv _ _ (by unfold aluP; omega) (by unfold aluX; simp only [Int.reduceEq, if_false, if_true]; all_goals rfl)
 refine ⟨fun h => ?_, fun h27 => ?_⟩
 ·subst h; exact ⟨fun g => hv _ _ (by unfold aluP; omega) (by unfold aluX; simp only [Int.reduceEq, if_false, if_true]; rw [if_neg g]), fun g => hv _ _ (by unfold aluP; omega) (by unfold aluX; simp only [Int.reduceEq, if_false, if_true]; rw [if_pos g])⟩
 refine ⟨fun h => ?_, fun h28 => ?_⟩
 ·subst h; exact hv _ _ (by unfold aluP; omega) (by unfold aluX; simp only [Int.reduceEq, if_false, if_true]; all_goals rfl)
 refine ⟨fun h => ?_, fun h29 => ?_⟩
 ·subst h; exact hv _ _ (by unfold aluP; omega) (by unfold aluX; simp only [Int.reduceEq, if_false, if_true]; all_goals rfl)
 refine ⟨fun h => ?_, fun h30 => ?_⟩
 ·subst h; exact hv _ _ (by unfold aluP; omega) (by unfold aluX; simp only [Int.reduceEq, if_false, if_true]; all_goals rfl)
 exact hn _ (by unfold aluP; omega)
theorem plain (i v ro p) : statR 2 rc tree ⟨i, fN, v, ro, p⟩ = P (i 0) (i 1) (i 2) := by kernel_rfl
theorem ran : ranR us (fun _ _ => .auto) rc 2 tree = true := by kernel_rfl
theorem fineT : fineR 2 rc tree = true := by kernel_rfl
theorem ok : RcOk (cxOf 2) rc := okR us_ok ran fineT okb fun i v ro p hρ hcap hpre => by rw [plain]; have q := hρ.hi; exact holds _ _ _ (q 0 _ rfl).1 (q 0 _ rfl).2 (q 1 _ rfl).1 (q 1 _ rfl).2 (q 2 _ rfl).1 (q 2 _ rfl).2
end CADo
end Go.Proofs.YtppkkgicidagmabGreatDoor
