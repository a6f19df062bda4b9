/-
  What functions of the program answer, as numbers of what they are handed: their runs by the engine, the plain statements behind them. No condition.
-/
import Derived.Test.YtieocjnfjjgjeabKa
import Derived.Test.YtieocjnfjjgjeabKb
import Derived.Test.YtieocjnfjjgjeabGab
import Derived.Test.YtieocjnfjjgjeabGp1
import Derived.Test.YtieocjnfjjgjeabGp2
set_option linter.unusedVariables false
set_option linter.unusedSimpArgs false
set_option maxRecDepth 100000
namespace Go.Proofs.Ytieocjnfjjgjeab
open Go.Eng Go.RowKit
namespace SMcF
def Q0 : E := (tp (.v 2) (.v 4))
def Q1 : E := (.b .shr .u64 Q0 (.c 1))
def Q2 : E := (tp Q1 (.v 3))
def Q3 : E := (.cl 1000 (-9223372036854775808) 9223372036854775807)
def Q4 : E := (.cl 1001 (-9223372036854775808) 9223372036854775807)
def Q5 : E := (tk Q3 Q4)
def Q6 : E := (.b .psub .i64 Q2 (.c 1))
def Q7 : E := (tp Q3 Q4)
def Q8 : E := (.w .u64 Q7)
def Q9 : E := (.b .shr .u64 Q8 (.c 1))
def Q10 : E := (.cl 1003 (-1) 1999999)
def Q11 : E := (.cl 1004 0 9223372036854775807)
def Q12 : E := (.b .psub .i64 Q10 Q11)
def Q13 : E := (tl (.c 0) Q12)
def Q14 : E := (tk Q12 (.v 1))
def Q15 : E := (tR (.v 5) Q12)
def Q16 : E := (tR Q15 (.c 0))
def Q17 : E := (t6 Q16)
def Q18 : E := (tR Q15 (.c 1))
def Q19 : E := (t6 Q18)
def Q20 : E := (tR Q15 (.c 2))
def Q21 : E := (t6 Q20)
def Q22 : E := (tR Q15 (.c 3))
def Q23 : E := (t6 Q22)
def Q24 : E := (tk Q11 (.v 1))
def Q25 : E := (tR (.v 5) Q11)
def Q26 : E := (tR Q25 (.c 0))
def Q27 : E := (t6 Q26)
def Q28 : E := (tR Q25 (.c 1))
def Q29 : E := (t6 Q28)
def Q30 : E := (tR Q25 (.c 2))
def Q31 : E := (t6 Q30)
def Q32 : E := (tR Q25 (.c 3))
def Q33 : E := (t6 Q32)
def Q34 : E := (.cl 1012 (-9223372036854775808) 9223372036854775807)
def Q35 : E := (.cl 1008 (-9223372036854775808) 9223372036854775807)
def Q36 : E := (tk Q34 Q35)
def Q37 : E := (tk Q35 Q34)
def Q38 : E := (.ite Q37 (.c 1) (.c 0))
def Q39 : E := (.ite Q36 (.c (-1)) Q38)
def Q40 : E := (tk (.cl 1013 (-1) 1) (.c 0))
def Q41 : E := (.nt Q40)
def Q42 : E := (tp Q9 (.c 1))
def Q43 : E := (t6 Q42)
def Q44 : E := (tk Q3 (.v 3))
def Q45 : E := (.b .psub .i64 Q2 Q3)
def Q46 : E := (t6 Q45)
def Q47 : E := (tk (.v 3) Q46)
def Q48 : E := (tl (.c 0) Q3)
def Q49 : E := (tl Q3 (.c 1000000))
def Q50 : E := (tl (.c 0) Q46)
def Q51 : E := (tl Q46 (.c 1000000))
def Q52 : E := (tp Q3 (.c 1))
def Q53 : E := (tl Q52 (.v 3))
def Q54 : E := (tp (.v 3) (.c 1))
def Q55 : E := (.cl 1016 (-9223372036854775808) 9223372036854775807)
def Q56 : E := (tl Q54 Q55)
def Q57 : E := (tl Q55 (.v 1))
def Q58 : E := (tk (.v 2) Q3)
def Q59 : E := (tk Q3 Q1)
def Q60 : E := (tp (.v 2) (.c 1))
def Q61 : E := (tl Q60 Q3)
def Q62 : E := (tl Q52 Q1)
def Q63 : E := (tl Q1 (.v 1))
def Q64 : E := (.b .psub .i64 Q1 (.v 2))
def Q65 (kB : Int) : E := (tl Q64 (.c kB))
def Q66 : E := (tC Q55 (.c 0))
def Q67 : E := (tC (.v 3) Q66)
def Q68 : E := (tC Q3 Q67)
def Q69 : E := (.f 155 (.v 5) (.v 1) Q68)
def Q70 : E := (.f 154 Q69 (.v 2) Q3)
def Q71 : E := (.f 154 Q69 Q3 Q1)
def Q72 : E := (tk Q1 Q46)
def Q73 : E := (tk Q46 (.v 4))
def Q74 : E := (tp Q1 (.c 1))
def Q75 : E := (tl Q74 Q55)
def Q76 : E := (tp Q55 (.c 1))
def Q77 : E := (tl Q76 (.v 4))
def Q78 : E := (.b .psub .i64 (.v 4) Q1)
def Q79 (kB : Int) : E := (tl Q78 (.c kB))
def Q80 : E := (tC Q1 (.c 0))
def Q81 : E := (tC (.v 2) Q80)
def Q82 : E := (.f 153 Q69 (.v 1) Q81)
def Q83 : E := (.f 154 Q82 Q1 Q55)
def Q84 : E := (.f 154 Q82 Q55 (.v 4))
def Q85 : E := (tC (.v 4) (.c 0))
def Q86 : E := (tC Q1 Q85)
def Q87 : E := (.f 153 Q82 (.v 1) Q86)
def Q88 : E := (.f 154 Q69 Q1 Q55)
def Q89 : E := (.f 154 Q69 Q55 (.v 4))
def Q90 : E := (.f 153 Q69 (.v 1) Q86)
def Q91 : E := (.f 154 (.v 5) (.v 2) Q3)
def Q92 : E := (.f 154 (.v 5) Q3 Q1)
def Q93 : E := (.f 153 (.v 5) (.v 1) Q81)
def Q94 : E := (.f 154 Q93 Q1 Q55)
def Q95 : E := (.f 154 Q93 Q55 (.v 4))
def Q96 : E := (.f 153 Q93 (.v 1) Q86)
def Q97 : E := (.f 154 (.v 5) Q1 Q55)
def Q98 : E := (.f 154 (.v 5) Q55 (.v 4))
def Q99 : E := (.f 153 (.v 5) (.v 1) Q86)
def tree (kB : Int) : TT (List E) :=
 (.br (tk Q1 (.v 3)) (.loop ⟨1000, [some (-9223372036854775808, 9223372036854775807), some (-9223372036854775808, 9223372036854775807)], [(.b .psub .i64 Q2 (.v 4)), Q1], 1014⟩ (.br Q5 (.new 1003 Q6 (.new 1004 Q9 (.br Q13 (.br Q14 (.new 1005 Q17 (.new 1006 Q19 (.new 1007 Q21 (.new 1008 Q23 (.br Q24 (.new 1009 Q27 (.new 1010 Q29 (.new 1011 Q31 (.new 1012 Q33 (.new 1013 Q39 (.br Q41 (.back [Q43, Q4]) (.back [Q3, Q9]))))))) (.bad 200)))))) (.bad 200)) (.bad 200)))) (.exit 0)) (.br Q44 (.br Q47 (.br Q48 (.br Q49 (.br Q50 (.br Q51 (.new 1016 Q46 (.br Q53 (.br Q56 (.br Q57 (.br Q58 (.br Q59 (.br Q61 (.br Q62 (.br Q63 (.br (Q65 kB) (.br Q70 (.br Q71 (.br Q72 (.br Q73 (.br Q75 (.br Q77 (.br (Q79 kB) (.br Q83 (.br Q84 (.leaf [Q87]) (.bad 200)) (.bad 200)) (.bad 200)) (.bad 200)) (.bad 200)) (.leaf [Q82]))
 (.leaf [Q82])) (.bad 200)) (.bad 200)) (.bad 200)) (.bad 200)) (.bad 200)) (.bad 200)) (.br Q72 (.br Q73 (.br Q75 (.br Q77 (.br (Q79 kB) (.br Q88 (.br Q89 (.leaf [Q90]) (.bad 200)) (.bad 200)) (.bad 200)) (.bad 200)) (.bad 200)) (.leaf [Q69])) (.leaf [Q69]))) (.br Q72 (.br Q73 (.br Q75 (.br Q77 (.br (Q79 kB) (.br Q88 (.br Q89 (.leaf [Q90]) (.bad 200)) (.bad 200)) (.bad 200)) (.bad 200)) (.bad 200)) (.leaf [Q69])) (.leaf [Q69]))) (.bad 200)) (.bad 200)) (.bad 200))) (.bad 200)) (.bad 200)) (.bad 200)) (.bad 200)) (.br Q58 (.br Q59 (.br Q48 (.br Q49 (.br Q61 (.br Q62 (.br Q63 (.br (Q65 kB) (.br Q91 (.br Q92 (.br Q72 (.br Q73 (.br Q50 (.br Q51 (.new 1016 Q46 (.br Q75 (.br Q77 (.br (Q79 kB) (.br Q94 (.br Q95 (.leaf [Q96]) (.bad 200)) (.bad 200)) (.bad 200)) (.bad 200)) (.bad 200))) (.bad 200)) (.bad 200))
 (.leaf [Q93])) (.leaf [Q93])) (.bad 200)) (.bad 200)) (.bad 200)) (.bad 200)) (.bad 200)) (.bad 200)) (.bad 200)) (.bad 200)) (.br Q72 (.br Q73 (.br Q50 (.br Q51 (.new 1016 Q46 (.br Q75 (.br Q77 (.br (Q79 kB) (.br Q97 (.br Q98 (.leaf [Q99]) (.bad 200)) (.bad 200)) (.bad 200)) (.bad 200)) (.bad 200))) (.bad 200)) (.bad 200)) (.leaf [(.v 5)])) (.leaf [(.v 5)]))) (.br Q72 (.br Q73 (.br Q50 (.br Q51 (.new 1016 Q46 (.br Q75 (.br Q77 (.br (Q79 kB) (.br Q97 (.br Q98 (.leaf [Q99]) (.bad 200)) (.bad 200)) (.bad 200)) (.bad 200)) (.bad 200))) (.bad 200)) (.bad 200)) (.leaf [(.v 5)])) (.leaf [(.v 5)])))) (.br Q58 (.br Q59 (.br Q48 (.br Q49 (.br Q61 (.br Q62 (.br Q63 (.br (Q65 kB) (.br Q91 (.br Q92 (.br Q72 (.br Q73 (.br Q50 (.br Q51 (.new 1016 Q46 (.br Q75 (.br Q77 (.br (Q79 kB) (.br Q94 (.br Q95 (.leaf [Q96]) (.bad
 200)) (.bad 200)) (.bad 200)) (.bad 200)) (.bad 200))) (.bad 200)) (.bad 200)) (.leaf [Q93])) (.leaf [Q93])) (.bad 200)) (.bad 200)) (.bad 200)) (.bad 200)) (.bad 200)) (.bad 200)) (.bad 200)) (.bad 200)) (.br Q72 (.br Q73 (.br Q50 (.br Q51 (.new 1016 Q46 (.br Q75 (.br Q77 (.br (Q79 kB) (.br Q97 (.br Q98 (.leaf [Q99]) (.bad 200)) (.bad 200)) (.bad 200)) (.bad 200)) (.bad 200))) (.bad 200)) (.bad 200)) (.leaf [(.v 5)])) (.leaf [(.v 5)]))) (.br Q72 (.br Q73 (.br Q50 (.br Q51 (.new 1016 Q46 (.br Q75 (.br Q77 (.br (Q79 kB) (.br Q97 (.br Q98 (.leaf [Q99]) (.bad 200)) (.bad 200)) (.bad 200)) (.bad 200)) (.bad 200))) (.bad 200)) (.bad 200)) (.leaf [(.v 5)])) (.leaf [(.v 5)]))))) (.loop ⟨1000, [some (-9223372036854775808, 9223372036854775807), some (-9223372036854775808, 9223372036854775807)], [(.v 2),
 (.v 3)], 1014⟩ (.br Q5 (.new 1003 Q6 (.new 1004 Q9 (.br Q13 (.br Q14 (.new 1005 Q17 (.new 1006 Q19 (.new 1007 Q21 (.new 1008 Q23 (.br Q24 (.new 1009 Q27 (.new 1010 Q29 (.new 1011 Q31 (.new 1012 Q33 (.new 1013 Q39 (.br Q41 (.back [Q43, Q4]) (.back [Q3, Q9]))))))) (.bad 200)))))) (.bad 200)) (.bad 200)))) (.exit 0)) (.br Q44 (.br Q47 (.br Q48 (.br Q49 (.br Q50 (.br Q51 (.new 1016 Q46 (.br Q53 (.br Q56 (.br Q57 (.br Q58 (.br Q59 (.br Q61 (.br Q62 (.br Q63 (.br (Q65 kB) (.br Q70 (.br Q71 (.br Q72 (.br Q73 (.br Q75 (.br Q77 (.br (Q79 kB) (.br Q83 (.br Q84 (.leaf [Q87]) (.bad 200)) (.bad 200)) (.bad 200)) (.bad 200)) (.bad 200)) (.leaf [Q82])) (.leaf [Q82])) (.bad 200)) (.bad 200)) (.bad 200)) (.bad 200)) (.bad 200)) (.bad 200)) (.br Q72 (.br Q73 (.br Q75 (.br Q77 (.br (Q79 kB) (.br Q88 (.br Q89 (.leaf
 [Q90]) (.bad 200)) (.bad 200)) (.bad 200)) (.bad 200)) (.bad 200)) (.leaf [Q69])) (.leaf [Q69]))) (.br Q72 (.br Q73 (.br Q75 (.br Q77 (.br (Q79 kB) (.br Q88 (.br Q89 (.leaf [Q90]) (.bad 200)) (.bad 200)) (.bad 200)) (.bad 200)) (.bad 200)) (.leaf [Q69])) (.leaf [Q69]))) (.bad 200)) (.bad 200)) (.bad 200))) (.bad 200)) (.bad 200)) (.bad 200)) (.bad 200)) (.br Q58 (.br Q59 (.br Q48 (.br Q49 (.br Q61 (.br Q62 (.br Q63 (.br (Q65 kB) (.br Q91 (.br Q92 (.br Q72 (.br Q73 (.br Q50 (.br Q51 (.new 1016 Q46 (.br Q75 (.br Q77 (.br (Q79 kB) (.br Q94 (.br Q95 (.leaf [Q96]) (.bad 200)) (.bad 200)) (.bad 200)) (.bad 200)) (.bad 200))) (.bad 200)) (.bad 200)) (.leaf [Q93])) (.leaf [Q93])) (.bad 200)) (.bad 200)) (.bad 200)) (.bad 200)) (.bad 200)) (.bad 200)) (.bad 200)) (.bad 200)) (.br Q72 (.br Q73 (.br Q50 (.br Q51
 (.new 1016 Q46 (.br Q75 (.br Q77 (.br (Q79 kB) (.br Q97 (.br Q98 (.leaf [Q99]) (.bad 200)) (.bad 200)) (.bad 200)) (.bad 200)) (.bad 200))) (.bad 200)) (.bad 200)) (.leaf [(.v 5)])) (.leaf [(.v 5)]))) (.br Q72 (.br Q73 (.br Q50 (.br Q51 (.new 1016 Q46 (.br Q75 (.br Q77 (.br (Q79 kB) (.br Q97 (.br Q98 (.leaf [Q99]) (.bad 200)) (.bad 200)) (.bad 200)) (.bad 200)) (.bad 200))) (.bad 200)) (.bad 200)) (.leaf [(.v 5)])) (.leaf [(.v 5)])))) (.br Q58 (.br Q59 (.br Q48 (.br Q49 (.br Q61 (.br Q62 (.br Q63 (.br (Q65 kB) (.br Q91 (.br Q92 (.br Q72 (.br Q73 (.br Q50 (.br Q51 (.new 1016 Q46 (.br Q75 (.br Q77 (.br (Q79 kB) (.br Q94 (.br Q95 (.leaf [Q96]) (.bad 200)) (.bad 200)) (.bad 200)) (.bad 200)) (.bad 200))) (.bad 200)) (.bad 200)) (.leaf [Q93])) (.leaf [Q93])) (.bad 200)) (.bad 200)) (.bad 200)) (.bad 200)) (.bad
 200)) (.bad 200)) (.bad 200)) (.bad 200)) (.br Q72 (.br Q73 (.br Q50 (.br Q51 (.new 1016 Q46 (.br Q75 (.br Q77 (.br (Q79 kB) (.br Q97 (.br Q98 (.leaf [Q99]) (.bad 200)) (.bad 200)) (.bad 200)) (.bad 200)) (.bad 200))) (.bad 200)) (.bad 200)) (.leaf [(.v 5)])) (.leaf [(.v 5)]))) (.br Q72 (.br Q73 (.br Q50 (.br Q51 (.new 1016 Q46 (.br Q75 (.br Q77 (.br (Q79 kB) (.br Q97 (.br Q98 (.leaf [Q99]) (.bad 200)) (.bad 200)) (.bad 200)) (.bad 200)) (.bad 200))) (.bad 200)) (.bad 200)) (.leaf [(.v 5)])) (.leaf [(.v 5)]))))))

noncomputable def sq0 (c e d y0 : Int) : Int := (Pl (shrZ .u64 (c + e) 1) (W6 (((shrZ .u64 (c + e) 1) + d) - y0)))
noncomputable def sq1 (f b y0 d y16 : Int) : Int := (rotZ f b (kZ y0 (kZ d (kZ y16 0))))
noncomputable def sq2 (f b c e : Int) : Int := (stbZ f b (kZ c (kZ (shrZ .u64 (c + e) 1) 0)))
noncomputable def sq3 (c e d y0 : Int) : Int := (Pl (W6 (((shrZ .u64 (c + e) 1) + d) - y0)) e)
noncomputable def sq4 (c e d y0 : Int) : Int := (PL (W6 (((shrZ .u64 (c + e) 1) + d) - y0)) 1000000)
noncomputable def sq5 (c e d y0 : Int) : Int := (PL 0 (W6 (((shrZ .u64 (c + e) 1) + d) - y0)))
noncomputable def sq6 (f b y0 d y16 c e : Int) : Int := (stbZ (sq1 f b y0 d y16) b (kZ c (kZ (shrZ .u64 (c + e) 1) 0)))
def sL0 (f b c e z0 : Int) : Prop := qJz [.int .i64, .int .i64, .int .i64, .int .i64] z0 (stbZ f b (kZ c (kZ e 0))) b ∧ True
def sq7 (kB : Int) (y0 y1 c e d b f : Int) (m0 : Nat) (I1000 : Int → Int → Nat → Prop) : Prop := (Pb (Pl y0 y1) (Pn (((shrZ .u64 (c + e) 1) + d) - 1) (-1) 1999999 fun y3 => Pn (shrZ .u64 (IntKind.wrap .u64 (y0 + y1)) 1) 0 9223372036854775807 fun y4 => (Pm (PL 0 (y3 - y4)) (Pm (Pl (y3 - y4) b) (Pn (W6 (rdZ (rdZ f (y3 - y4)) 0)) (-9223372036854775808) 9223372036854775807 fun y5 => Pn (W6 (rdZ (rdZ f (y3 - y4)) 1)) (-9223372036854775808) 9223372036854775807 fun y6 => Pn (W6 (rdZ (rdZ f (y3 - y4)) 2)) (-9223372036854775808) 9223372036854775807 fun y7 => Pn (W6 (rdZ (rdZ f (y3 - y4)) 3)) (-9223372036854775808) 9223372036854775807 fun y8 => (Pm (Pl y4 b) (Pn (W6 (rdZ (rdZ f y4) 0)) (-9223372036854775808) 9223372036854775807 fun y9 => Pn (W6 (rdZ (rdZ f y4) 1)) (-9223372036854775808) 9223372036854775807
 fun y10 => Pn (W6 (rdZ (rdZ f y4) 2)) (-9223372036854775808) 9223372036854775807 fun y11 => Pn (W6 (rdZ (rdZ f y4) 3)) (-9223372036854775808) 9223372036854775807 fun y12 => Pn (iteZ (Pl y12 y8) (-1) (iteZ (Pl y8 y12) 1 0)) (-1) 1 fun y13 => (Pb (Pe (Pl y13 0) 0) (∃ m', m' < m0 ∧ I1000 (W6 ((shrZ .u64 (IntKind.wrap .u64 (y0 + y1)) 1) + 1)) y1 m') (∃ m', m' < m0 ∧ I1000 y0 (shrZ .u64 (IntKind.wrap .u64 (y0 + y1)) 1) m')))))))) (Pb (Pl y0 d) (Pb (Pl d (W6 (((shrZ .u64 (c + e) 1) + d) - y0))) (Pm (PL 0 y0) (Pm (PL y0 1000000) (Pm (sq5 c e d y0) (Pm (sq4 c e d y0) (Pn (W6 (((shrZ .u64 (c + e) 1) + d) - y0)) (-9223372036854775808) 9223372036854775807 fun y16 => (Pm (PL (y0 + 1) d) (Pm (PL (d + 1) y16) (Pm (PL y16 b) (Pb (Pl c y0) (Pb (Pl y0 (shrZ .u64 (c + e) 1)) (Pm (PL (c + 1) y0) (Pm (PL
 (y0 + 1) (shrZ .u64 (c + e) 1)) (Pm (PL (shrZ .u64 (c + e) 1) b) (Pm (PL ((shrZ .u64 (c + e) 1) - c) kB) (Pm (srtZ (sq1 f b y0 d y16) c y0) (Pm (srtZ (sq1 f b y0 d y16) y0 (shrZ .u64 (c + e) 1)) (Pb (sq0 c e d y0) (Pb (sq3 c e d y0) (Pm (PL ((shrZ .u64 (c + e) 1) + 1) y16) (Pm (PL (y16 + 1) e) (Pm (PL (e - (shrZ .u64 (c + e) 1)) kB) (Pm (srtZ (sq6 f b y0 d y16 c e) (shrZ .u64 (c + e) 1) y16) (Pm (srtZ (sq6 f b y0 d y16 c e) y16 e) (sL0 f b c e (stbZ (sq6 f b y0 d y16 c e) b (kZ (shrZ .u64 (c + e) 1) (kZ e 0))))))))) (sL0 f b c e (sq6 f b y0 d y16 c e))) (sL0 f b c e (sq6 f b y0 d y16 c e))))))))) (Pb (sq0 c e d y0) (Pb (sq3 c e d y0) (Pm (PL ((shrZ .u64 (c + e) 1) + 1) y16) (Pm (PL (y16 + 1) e) (Pm (PL (e - (shrZ .u64 (c + e) 1)) kB) (Pm (srtZ (sq1 f b y0 d y16) (shrZ .u64 (c + e) 1)
 y16) (Pm (srtZ (sq1 f b y0 d y16) y16 e) (sL0 f b c e (stbZ (sq1 f b y0 d y16) b (kZ (shrZ .u64 (c + e) 1) (kZ e 0))))))))) (sL0 f b c e (sq1 f b y0 d y16))) (sL0 f b c e (sq1 f b y0 d y16)))) (Pb (sq0 c e d y0) (Pb (sq3 c e d y0) (Pm (PL ((shrZ .u64 (c + e) 1) + 1) y16) (Pm (PL (y16 + 1) e) (Pm (PL (e - (shrZ .u64 (c + e) 1)) kB) (Pm (srtZ (sq1 f b y0 d y16) (shrZ .u64 (c + e) 1) y16) (Pm (srtZ (sq1 f b y0 d y16) y16 e) (sL0 f b c e (stbZ (sq1 f b y0 d y16) b (kZ (shrZ .u64 (c + e) 1) (kZ e 0))))))))) (sL0 f b c e (sq1 f b y0 d y16))) (sL0 f b c e (sq1 f b y0 d y16)))))))))))) (Pb (Pl c y0) (Pb (Pl y0 (shrZ .u64 (c + e) 1)) (Pm (PL 0 y0) (Pm (PL y0 1000000) (Pm (PL (c + 1) y0) (Pm (PL (y0 + 1) (shrZ .u64 (c + e) 1)) (Pm (PL (shrZ .u64 (c + e) 1) b) (Pm (PL ((shrZ .u64 (c + e) 1) - c)
 kB) (Pm (srtZ f c y0) (Pm (srtZ f y0 (shrZ .u64 (c + e) 1)) (Pb (sq0 c e d y0) (Pb (sq3 c e d y0) (Pm (sq5 c e d y0) (Pm (sq4 c e d y0) (Pn (W6 (((shrZ .u64 (c + e) 1) + d) - y0)) (-9223372036854775808) 9223372036854775807 fun y16 => (Pm (PL ((shrZ .u64 (c + e) 1) + 1) y16) (Pm (PL (y16 + 1) e) (Pm (PL (e - (shrZ .u64 (c + e) 1)) kB) (Pm (srtZ (sq2 f b c e) (shrZ .u64 (c + e) 1) y16) (Pm (srtZ (sq2 f b c e) y16 e) (sL0 f b c e (stbZ (sq2 f b c e) b (kZ (shrZ .u64 (c + e) 1) (kZ e 0)))))))))))) (sL0 f b c e (sq2 f b c e))) (sL0 f b c e (sq2 f b c e))))))))))) (Pb (sq0 c e d y0) (Pb (sq3 c e d y0) (Pm (sq5 c e d y0) (Pm (sq4 c e d y0) (Pn (W6 (((shrZ .u64 (c + e) 1) + d) - y0)) (-9223372036854775808) 9223372036854775807 fun y16 => (Pm (PL ((shrZ .u64 (c + e) 1) + 1) y16) (Pm (PL (y16 +
 1) e) (Pm (PL (e - (shrZ .u64 (c + e) 1)) kB) (Pm (srtZ f (shrZ .u64 (c + e) 1) y16) (Pm (srtZ f y16 e) (sL0 f b c e (stbZ f b (kZ (shrZ .u64 (c + e) 1) (kZ e 0)))))))))))) (qJz [.int .i64, .int .i64, .int .i64, .int .i64] f (stbZ f b (kZ c (kZ e 0))) b ∧ True)) (qJz [.int .i64, .int .i64, .int .i64, .int .i64] f (stbZ f b (kZ c (kZ e 0))) b ∧ True))) (Pb (sq0 c e d y0) (Pb (sq3 c e d y0) (Pm (sq5 c e d y0) (Pm (sq4 c e d y0) (Pn (W6 (((shrZ .u64 (c + e) 1) + d) - y0)) (-9223372036854775808) 9223372036854775807 fun y16 => (Pm (PL ((shrZ .u64 (c + e) 1) + 1) y16) (Pm (PL (y16 + 1) e) (Pm (PL (e - (shrZ .u64 (c + e) 1)) kB) (Pm (srtZ f (shrZ .u64 (c + e) 1) y16) (Pm (srtZ f y16 e) (sL0 f b c e (stbZ f b (kZ (shrZ .u64 (c + e) 1) (kZ e 0)))))))))))) (qJz [.int .i64, .int .i64, .int
 .i64, .int .i64] f (stbZ f b (kZ c (kZ e 0))) b ∧ True)) (qJz [.int .i64, .int .i64, .int .i64, .int .i64] f (stbZ f b (kZ c (kZ e 0))) b ∧ True)))) (Pb (Pl c y0) (Pb (Pl y0 (shrZ .u64 (c + e) 1)) (Pm (PL 0 y0) (Pm (PL y0 1000000) (Pm (PL (c + 1) y0) (Pm (PL (y0 + 1) (shrZ .u64 (c + e) 1)) (Pm (PL (shrZ .u64 (c + e) 1) b) (Pm (PL ((shrZ .u64 (c + e) 1) - c) kB) (Pm (srtZ f c y0) (Pm (srtZ f y0 (shrZ .u64 (c + e) 1)) (Pb (sq0 c e d y0) (Pb (sq3 c e d y0) (Pm (sq5 c e d y0) (Pm (sq4 c e d y0) (Pn (W6 (((shrZ .u64 (c + e) 1) + d) - y0)) (-9223372036854775808) 9223372036854775807 fun y16 => (Pm (PL ((shrZ .u64 (c + e) 1) + 1) y16) (Pm (PL (y16 + 1) e) (Pm (PL (e - (shrZ .u64 (c + e) 1)) kB) (Pm (srtZ (sq2 f b c e) (shrZ .u64 (c + e) 1) y16) (Pm (srtZ (sq2 f b c e) y16 e) (sL0 f b c e
 (stbZ (sq2 f b c e) b (kZ (shrZ .u64 (c + e) 1) (kZ e 0)))))))))))) (sL0 f b c e (sq2 f b c e))) (sL0 f b c e (sq2 f b c e))))))))))) (Pb (sq0 c e d y0) (Pb (sq3 c e d y0) (Pm (sq5 c e d y0) (Pm (sq4 c e d y0) (Pn (W6 (((shrZ .u64 (c + e) 1) + d) - y0)) (-9223372036854775808) 9223372036854775807 fun y16 => (Pm (PL ((shrZ .u64 (c + e) 1) + 1) y16) (Pm (PL (y16 + 1) e) (Pm (PL (e - (shrZ .u64 (c + e) 1)) kB) (Pm (srtZ f (shrZ .u64 (c + e) 1) y16) (Pm (srtZ f y16 e) (sL0 f b c e (stbZ f b (kZ (shrZ .u64 (c + e) 1) (kZ e 0)))))))))))) (qJz [.int .i64, .int .i64, .int .i64, .int .i64] f (stbZ f b (kZ c (kZ e 0))) b ∧ True)) (qJz [.int .i64, .int .i64, .int .i64, .int .i64] f (stbZ f b (kZ c (kZ e 0))) b ∧ True))) (Pb (sq0 c e d y0) (Pb (sq3 c e d y0) (Pm (sq5 c e d y0) (Pm (sq4 c e d y0)
 (Pn (W6 (((shrZ .u64 (c + e) 1) + d) - y0)) (-9223372036854775808) 9223372036854775807 fun y16 => (Pm (PL ((shrZ .u64 (c + e) 1) + 1) y16) (Pm (PL (y16 + 1) e) (Pm (PL (e - (shrZ .u64 (c + e) 1)) kB) (Pm (srtZ f (shrZ .u64 (c + e) 1) y16) (Pm (srtZ f y16 e) (sL0 f b c e (stbZ f b (kZ (shrZ .u64 (c + e) 1) (kZ e 0)))))))))))) (qJz [.int .i64, .int .i64, .int .i64, .int .i64] f (stbZ f b (kZ c (kZ e 0))) b ∧ True)) (qJz [.int .i64, .int .i64, .int .i64, .int .i64] f (stbZ f b (kZ c (kZ e 0))) b ∧ True)))))
def P (kB : Int) (a b c d e f : Int) : Prop :=
 (Pb (Pl (shrZ .u64 (c + e) 1) d) (∃ I1000 : Int → Int → Nat → Prop, (∃ m, I1000 (((shrZ .u64 (c + e) 1) + d) - e) (shrZ .u64 (c + e) 1) m) ∧ ∀ y0 y1 : Int, ∀ m0, (((-9223372036854775808) ≤ y0 ∧ y0 ≤ 9223372036854775807) ∧ ((-9223372036854775808) ≤ y1 ∧ y1 ≤ 9223372036854775807) ∧ True) → I1000 y0 y1 m0 → (sq7 kB y0 y1 c e d b f m0 I1000)) (∃ I1000 : Int → Int → Nat → Prop, (∃ m, I1000 c d m) ∧ ∀ y0 y1 : Int, ∀ m0, (((-9223372036854775808) ≤ y0 ∧ y0 ≤ 9223372036854775807) ∧ ((-9223372036854775808) ≤ y1 ∧ y1 ≤ 9223372036854775807) ∧ True) → I1000 y0 y1 m0 → (sq7 kB y0 y1 c e d b f m0 I1000)))

theorem shr1 {x : Int} (h0 : 0 ≤ x) (h1 : x ≤ 4000000) : shrZ .u64 x 1 = x / 2 := by
 unfold shrZ
 rw [shr_ev]
 rfl
set_option maxHeartbeats 20000000 in
theorem holds (kA kB : Int) (hkk : kA = 2 * kB) (hk1 : 1 ≤ kB) (o n a mi b q : Int) (l_o : 0 ≤ o) (u_o : o ≤ 0) (l_n : 0 ≤ n) (u_n : n ≤ 1000000) (l_a : 0 ≤ a) (u_a : a ≤ 1000000) (l_mi : 0 ≤ mi) (u_mi : mi ≤ 1000000) (l_b : 0 ≤ b) (u_b : b ≤ 1000000) (h_pre0 : (2 : Int) ≠ 0) (h_pre1 : qQq (decide (a+1 ≤ mi)) ≠ 0) (h_pre2 : qQq (decide (mi+1 ≤ b)) ≠ 0) (h_pre3 : qQq (decide (b ≤ n)) ≠ 0) (h_pre4 : (srtZ q a mi) ≠ 0) (h_pre5 : (srtZ q mi b) ≠ 0) (h_pre6 : qQq (decide (b-a ≤ kA)) ≠ 0) (h_pre7 : qQq (mi-a != 1) ≠ 0) (h_pre8 : qQq (b-mi != 1) ≠ 0) (h_pre9 : qQq (0 == o) ≠ 0) : P kB o n a mi b q := by
 delta P sq0 sq1 sq2 sq3 sq4 sq5 sq6 sq7 sL0 Pb Pm Pn PL Pl Pe W6 kZ
 simp only [nrm, Int.reduceEq, Int.reduceNeg, reduceIte]
 simp only [nrm, Int.reduceEq, Int.reduceNeg, reduceIte] at h_pre1 h_pre2 h_pre3 h_pre4 h_pre5 h_pre6 h_pre7 h_pre8
 have L := qXy.1 h_pre4
 have R := qXy.1 h_pre5
 rw [shr1 (x := a + b) (by omega) (by omega)]
 obtain ⟨M, hM⟩ : ∃ M, M = (a + b) / 2 := ⟨_, rfl⟩
 rw [← hM]
 refine ⟨fun hc => ?_, fun hc => ?_⟩
 ·refine ⟨fun s r m => M + mi - b ≤ s ∧ s ≤ r ∧ r ≤ M ∧ m = (r - s).toNat ∧ (s = M + mi - b ∨ cH (elH q (M + mi - 1 - (s - 1)).toNat) ≤ cH (elH q (s - 1).toNat)) ∧ (r = M ∨ cH (elH q r.toNat) < cH (elH q (M + mi - 1 - r).toNat)), ⟨_, by omega, by omega, by omega, rfl, .inl rfl, .inl rfl⟩, ?_⟩
  rintro s r m _ ⟨i0, i1, i2, rfl, i3, i4⟩
  have hsr : shrZ .u64 (IntKind.wrap .u64 (s + r)) 1 = (s + r) / 2 := by
   rw [qXk .u64 _ (by show (0 : Int) ≤ _; omega) (by show _ ≤ (18446744073709551615 : Int); omega)]
   exact shr1 (by omega) (by omega)
  refine ⟨fun hlt => ?_, fun hge => ?_⟩
  ·intro p hp _ c hc2 _
   rw [hsr] at hc2
   refine ⟨fun _ => ⟨fun _ => ?_, fun h => by omega⟩, fun h => by omega⟩
   intro y5 _ _ y6 _ _ y7 _ _ y8 e8 _
   refine ⟨fun _ => ?_, fun h => by omega⟩
   intro y9 _ _ y10 _ _ y11 _ _ y12 e12 _ y13 e13 _
   rw [cH_e (by omega)] at e8 e12
   rw [hsr]
   refine ⟨fun hk => ?_, fun hk => ?_⟩
   ·have hge' : y8 ≤ y12 := by rw [e13] at hk; omega
    rw [w64 (by omega) (by omega)]
    refine ⟨(r - ((s + r) / 2 + 1)).toNat, by omega, by omega, by omega, by omega, rfl, .inr ?_, i4⟩
    rw [show (s + r) / 2 + 1 - 1 = c by omega, show M + mi - 1 - c = p - c by omega]
    omega
   ·have hlt' : y12 < y8 := by rw [e13] at hk; omega
    refine ⟨((s + r) / 2 - s).toNat, by omega, by omega, by omega, by omega, rfl, i3, .inr ?_⟩
    rw [← hc2, show M + mi - 1 - c = p - c by omega]
    omega
  ·have hsr2 : s = r := by omega
   subst hsr2
   have hm : Mrg q n a mi b M s (M + mi - s) := Mrg.of (s0 := M + mi - b) (r0 := M) l_a (by omega) (by omega) h_pre3 hM (.inl ⟨hc, rfl, rfl⟩) i0 i2 rfl L R i3 i4
   have he : IntKind.wrap .i64 (M + mi - s) = M + mi - s := w64 (by omega) (by omega)
   rw [he]
   refine ⟨fun c1 => ⟨fun c2 => ?_, fun c2 => ?_⟩, fun c1 => ?_⟩
   ·refine ⟨fun _ => ⟨fun _ => ⟨fun _ => ⟨fun _ => ?_, fun h => by omega⟩, fun h => by omega⟩, fun h => by omega⟩, fun h => by omega⟩
    intro e he16 _
    subst he16
    have t := Go.Eng.Mrg.t1 hm
    repeat' (first | (refine And.intro (fun _ => ?_) (fun _ => ?_)) | (intro e' he' _; subst he'))
    all_goals first
     | with_reducible exact Go.Eng.Mrg.w3 hm t
     | with_reducible exact Go.Eng.Mrg.w1 hm t (by omega)
     | with_reducible exact Go.Eng.Mrg.w2 hm t (by omega)
     | with_reducible exact Go.Eng.Mrg.w0 hm t (by omega) (by omega)
     | with_reducible exact absurd (by assumption) (Go.Eng.Mrg.o1 hm t)
     | with_reducible exact absurd (by assumption) (Go.Eng.Mrg.o2 hm t)
     | with_reducible exact absurd (by assumption) (Go.Eng.Mrg.o3 hm t fun _ _ _ => rfl)
     | with_reducible exact absurd (by assumption) (Go.Eng.Mrg.o4 hm t fun _ _ _ => rfl)
     | with_reducible exact absurd (by assumption) (Go.Eng.Mrg.o3 hm t fun j hj hc => qZv (by omega) (by omega) (by omega) hj (by omega))
     | with_reducible exact absurd (by assumption) (Go.Eng.Mrg.o4 hm t fun j hj hc => qZv (by omega) (by omega) (by omega) hj (by omega))
     | (exfalso; omega)
   ·have t := Go.Eng.Mrg.t0 hm (by omega)
    repeat' (first | (refine And.intro (fun _ => ?_) (fun _ => ?_)) | (intro e' he' _; subst he'))
    all_goals first
     | with_reducible exact Go.Eng.Mrg.w3 hm t
     | with_reducible exact Go.Eng.Mrg.w1 hm t (by omega)
     | with_reducible exact Go.Eng.Mrg.w2 hm t (by omega)
     | with_reducible exact Go.Eng.Mrg.w0 hm t (by omega) (by omega)
     | with_reducible exact absurd (by assumption) (Go.Eng.Mrg.o1 hm t)
     | with_reducible exact absurd (by assumption) (Go.Eng.Mrg.o2 hm t)
     | with_reducible exact absurd (by assumption) (Go.Eng.Mrg.o3 hm t fun _ _ _ => rfl)
     | with_reducible exact absurd (by assumption) (Go.Eng.Mrg.o4 hm t fun _ _ _ => rfl)
     | with_reducible exact absurd (by assumption) (Go.Eng.Mrg.o3 hm t fun j hj hc => qZv (by omega) (by omega) (by omega) hj (by omega))
     | with_reducible exact absurd (by assumption) (Go.Eng.Mrg.o4 hm t fun j hj hc => qZv (by omega) (by omega) (by omega) hj (by omega))
     | (exfalso; omega)
   ·have t := Go.Eng.Mrg.t0 hm (by omega)
    repeat' (first | (refine And.intro (fun _ => ?_) (fun _ => ?_)) | (intro e' he' _; subst he'))
    all_goals first
     | with_reducible exact Go.Eng.Mrg.w3 hm t
     | with_reducible exact Go.Eng.Mrg.w1 hm t (by omega)
     | with_reducible exact Go.Eng.Mrg.w2 hm t (by omega)
     | with_reducible exact Go.Eng.Mrg.w0 hm t (by omega) (by omega)
     | with_reducible exact absurd (by assumption) (Go.Eng.Mrg.o1 hm t)
     | with_reducible exact absurd (by assumption) (Go.Eng.Mrg.o2 hm t)
     | with_reducible exact absurd (by assumption) (Go.Eng.Mrg.o3 hm t fun _ _ _ => rfl)
     | with_reducible exact absurd (by assumption) (Go.Eng.Mrg.o4 hm t fun _ _ _ => rfl)
     | with_reducible exact absurd (by assumption) (Go.Eng.Mrg.o3 hm t fun j hj hc => qZv (by omega) (by omega) (by omega) hj (by omega))
     | with_reducible exact absurd (by assumption) (Go.Eng.Mrg.o4 hm t fun j hj hc => qZv (by omega) (by omega) (by omega) hj (by omega))
     | (exfalso; omega)
 ·refine ⟨fun s r m => a ≤ s ∧ s ≤ r ∧ r ≤ mi ∧ m = (r - s).toNat ∧ (s = a ∨ cH (elH q (M + mi - 1 - (s - 1)).toNat) ≤ cH (elH q (s - 1).toNat)) ∧ (r = mi ∨ cH (elH q r.toNat) < cH (elH q (M + mi - 1 - r).toNat)), ⟨_, by omega, by omega, by omega, rfl, .inl rfl, .inl rfl⟩, ?_⟩
  rintro s r m _ ⟨i0, i1, i2, rfl, i3, i4⟩
  have hsr : shrZ .u64 (IntKind.wrap .u64 (s + r)) 1 = (s + r) / 2 := by
   rw [qXk .u64 _ (by show (0 : Int) ≤ _; omega) (by show _ ≤ (18446744073709551615 : Int); omega)]
   exact shr1 (by omega) (by omega)
  refine ⟨fun hlt => ?_, fun hge => ?_⟩
  ·intro p hp _ c hc2 _
   rw [hsr] at hc2
   refine ⟨fun _ => ⟨fun _ => ?_, fun h => by omega⟩, fun h => by omega⟩
   intro y5 _ _ y6 _ _ y7 _ _ y8 e8 _
   refine ⟨fun _ => ?_, fun h => by omega⟩
   intro y9 _ _ y10 _ _ y11 _ _ y12 e12 _ y13 e13 _
   rw [cH_e (by omega)] at e8 e12
   rw [hsr]
   refine ⟨fun hk => ?_, fun hk => ?_⟩
   ·have hge' : y8 ≤ y12 := by rw [e13] at hk; omega
    rw [w64 (by omega) (by omega)]
    refine ⟨(r - ((s + r) / 2 + 1)).toNat, by omega, by omega, by omega, by omega, rfl, .inr ?_, i4⟩
    rw [show (s + r) / 2 + 1 - 1 = c by omega, show M + mi - 1 - c = p - c by omega]
    omega
   ·have hlt' : y12 < y8 := by rw [e13] at hk; omega
    refine ⟨((s + r) / 2 - s).toNat, by omega, by omega, by omega, by omega, rfl, i3, .inr ?_⟩
    rw [← hc2, show M + mi - 1 - c = p - c by omega]
    omega
  ·have hsr2 : s = r := by omega
   subst hsr2
   have hm : Mrg q n a mi b M s (M + mi - s) := Mrg.of (s0 := a) (r0 := mi) l_a (by omega) (by omega) h_pre3 hM (.inr ⟨by omega, rfl, rfl⟩) i0 i2 rfl L R i3 i4
   have he : IntKind.wrap .i64 (M + mi - s) = M + mi - s := w64 (by omega) (by omega)
   rw [he]
   refine ⟨fun c1 => ⟨fun c2 => ?_, fun c2 => ?_⟩, fun c1 => ?_⟩
   ·refine ⟨fun _ => ⟨fun _ => ⟨fun _ => ⟨fun _ => ?_, fun h => by omega⟩, fun h => by omega⟩, fun h => by omega⟩, fun h => by omega⟩
    intro e he16 _
    subst he16
    have t := Go.Eng.Mrg.t1 hm
    repeat' (first | (refine And.intro (fun _ => ?_) (fun _ => ?_)) | (intro e' he' _; subst he'))
    all_goals first
     | with_reducible exact Go.Eng.Mrg.w3 hm t
     | with_reducible exact Go.Eng.Mrg.w1 hm t (by omega)
     | with_reducible exact Go.Eng.Mrg.w2 hm t (by omega)
     | with_reducible exact Go.Eng.Mrg.w0 hm t (by omega) (by omega)
     | with_reducible exact absurd (by assumption) (Go.Eng.Mrg.o1 hm t)
     | with_reducible exact absurd (by assumption) (Go.Eng.Mrg.o2 hm t)
     | with_reducible exact absurd (by assumption) (Go.Eng.Mrg.o3 hm t fun _ _ _ => rfl)
     | with_reducible exact absurd (by assumption) (Go.Eng.Mrg.o4 hm t fun _ _ _ => rfl)
     | with_reducible exact absurd (by assumption) (Go.Eng.Mrg.o3 hm t fun j hj hc => qZv (by omega) (by omega) (by omega) hj (by omega))
     | with_reducible exact absurd (by assumption) (Go.Eng.Mrg.o4 hm t fun j hj hc => qZv (by omega) (by omega) (by omega) hj (by omega))
     | (exfalso; omega)
   ·have t := Go.Eng.Mrg.t0 hm (by omega)
    repeat' (first | (refine And.intro (fun _ => ?_) (fun _ => ?_)) | (intro e' he' _; subst he'))
    all_goals first
     | with_reducible exact Go.Eng.Mrg.w3 hm t
     | with_reducible exact Go.Eng.Mrg.w1 hm t (by omega)
     | with_reducible exact Go.Eng.Mrg.w2 hm t (by omega)
     | with_reducible exact Go.Eng.Mrg.w0 hm t (by omega) (by omega)
     | with_reducible exact absurd (by assumption) (Go.Eng.Mrg.o1 hm t)
     | with_reducible exact absurd (by assumption) (Go.Eng.Mrg.o2 hm t)
     | with_reducible exact absurd (by assumption) (Go.Eng.Mrg.o3 hm t fun _ _ _ => rfl)
     | with_reducible exact absurd (by assumption) (Go.Eng.Mrg.o4 hm t fun _ _ _ => rfl)
     | with_reducible exact absurd (by assumption) (Go.Eng.Mrg.o3 hm t fun j hj hc => qZv (by omega) (by omega) (by omega) hj (by omega))
     | with_reducible exact absurd (by assumption) (Go.Eng.Mrg.o4 hm t fun j hj hc => qZv (by omega) (by omega) (by omega) hj (by omega))
     | (exfalso; omega)
   ·have t := Go.Eng.Mrg.t0 hm (by omega)
    repeat' (first | (refine And.intro (fun _ => ?_) (fun _ => ?_)) | (intro e' he' _; subst he'))
    all_goals first
     | with_reducible exact Go.Eng.Mrg.w3 hm t
     | with_reducible exact Go.Eng.Mrg.w1 hm t (by omega)
     | with_reducible exact Go.Eng.Mrg.w2 hm t (by omega)
     | with_reducible exact Go.Eng.Mrg.w0 hm t (by omega) (by omega)
     | with_reducible exact absurd (by assumption) (Go.Eng.Mrg.o1 hm t)
     | with_reducible exact absurd (by assumption) (Go.Eng.Mrg.o2 hm t)
     | with_reducible exact absurd (by assumption) (Go.Eng.Mrg.o3 hm t fun _ _ _ => rfl)
     | with_reducible exact absurd (by assumption) (Go.Eng.Mrg.o4 hm t fun _ _ _ => rfl)
     | with_reducible exact absurd (by assumption) (Go.Eng.Mrg.o3 hm t fun j hj hc => qZv (by omega) (by omega) (by omega) hj (by omega))
     | with_reducible exact absurd (by assumption) (Go.Eng.Mrg.o4 hm t fun j hj hc => qZv (by omega) (by omega) (by omega) hj (by omega))
     | (exfalso; omega)

end SMcF
namespace CSMc2
def rk : Rk := ⟨42, [(0, 0), (0, 1000000), (0, 1000000), (0, 1000000), (0, 1000000)], 6, [.sl (.own 0) 4 (.c 0) (.v 1) none, .int .i64 (.v 2), .int .i64 (.v 3), .int .i64 (.v 4), .func (.func 18) [] []], [.arr [.int .i64, .int .i64, .int .i64, .int .i64] 30 (.v 5) (.v 1)], [(.c 2), (.b .le .i64 (.b .padd .i64 (.v 2) (.c 1)) (.v 3)), (.b .le .i64 (.b .padd .i64 (.v 3) (.c 1)) (.v 4)), (.b .le .i64 (.v 4) (.v 1)), (.f 154 (.v 5) (.v 2) (.v 3)), (.f 154 (.v 5) (.v 3) (.v 4)), (.b .le .i64 (.b .psub .i64 (.v 4) (.v 2)) (.c 4)), (.b .ne .i64 (.b .psub .i64 (.v 3) (.v 2)) (.c 1)), (.b .ne .i64 (.b .psub .i64 (.v 4) (.v 3)) (.c 1)), (.b .eq .i64 (.c 0) (.v 0))], .tup [], [.arr [.int .i64, .int .i64, .int .i64, .int .i64] 30 (.v 1000000) (.v 1)], [.code [.int .i64, .int .i64, .int .i64, .int .i64] (.f 153 (.v 5) (.v 1) (qQs [(.v 2), (.v 4)])) (.v 1)], []⟩
theorem okk : rk.ok = true := by kernel_rfl
theorem okh : rk.rh.ok = true := by kernel_rfl
def mk42_33 : qZd := [([0, 21], .num (-9223372036854775808) (9223372036854775807)), ([0, 20], .num (-9223372036854775808) (9223372036854775807)), ([0, 23], .wilds 1), ([0, 149], .wilds 26)]
noncomputable def us : SMs := fun Γ ins n => smButH 42 rk.args (smH (cxG n Γ ins) [CSRot.rk.rh, CSMg1.rk.rh] (smR (cxG n Γ ins) [CTCmp.rc]))
theorem us_ok : SMsOk us := fun Γ ins n => qXu (qJp (tabsG n Γ ins) (qZw CSRot.okh (rh_n CSRot.ok) (qZw CSMg1.okh (rh_n CSMg1.ok) (qZp _))) (qJh (tabsG n Γ ins) (qJv CTCmp.okb (rc_n CTCmp.ok) (qZr _))))
def tree : TT (List E) := SMcF.tree 2
theorem plain (i v ro p) : statH 2 rk tree ⟨i, fN, v, ro, p⟩ = SMcF.P 2 (i 0) (i 1) (i 2) (i 3) (i 4) (i 5) := by kernel_rfl
theorem ran : ranH us (fun f i => if f = 42 then (match i with | 33 => .tmpl (some mk42_33) | _ => .auto) else .auto) rk 2 tree = true := by kernel_rfl
theorem fineT : fineH 2 rk tree = true := by kernel_rfl
theorem ok : RhOk (cxOf 2) rk.rh := okH us_ok ran fineT (by kernel_rfl) okk fun i v ro p hρ hpre => by rw [plain]; have q := hρ.hi; exact SMcF.holds 4 2 (by omega) (by omega) _ _ _ _ _ _ (q 0 _ rfl).1 (q 0 _ rfl).2 (q 1 _ rfl).1 (q 1 _ rfl).2 (q 2 _ rfl).1 (q 2 _ rfl).2 (q 3 _ rfl).1 (q 3 _ rfl).2 (q 4 _ rfl).1 (q 4 _ rfl).2 (hpre _ (mg 0 rfl)) (hpre _ (mg 1 rfl)) (hpre _ (mg 2 rfl)) (hpre _ (mg 3 rfl)) (hpre _ (mg 4 rfl)) (hpre _ (mg 5 rfl)) (hpre _ (mg 6 rfl)) (hpre _ (mg 7 rfl)) (hpre _ (mg 8 rfl)) (hpre _ (mg 9 rfl))
end CSMc2
namespace CSMg2
def rk : Rk := ⟨42, [(0, 1000000), (0, 1000000), (0, 1000000), (0, 1000000)], 5, [.sl (.own 0) 4 (.c 0) (.v 0) none, .int .i64 (.v 1), .int .i64 (.v 2), .int .i64 (.v 3), .func (.func 18) [] []], [.arr [.int .i64, .int .i64, .int .i64, .int .i64] 30 (.v 4) (.v 0)], [(.b .le .i64 (.b .padd .i64 (.v 1) (.c 1)) (.v 2)), (.b .le .i64 (.b .padd .i64 (.v 2) (.c 1)) (.v 3)), (.b .le .i64 (.v 3) (.v 0)), (.b .le .i64 (.b .psub .i64 (.v 3) (.v 1)) (.c 4)), (.f 154 (.v 4) (.v 1) (.v 2)), (.f 154 (.v 4) (.v 2) (.v 3))], .tup [], [.arr [.int .i64, .int .i64, .int .i64, .int .i64] 30 (.v 1000000) (.v 0)], [.code [.int .i64, .int .i64, .int .i64, .int .i64] (.f 153 (.v 4) (.v 0) (qQs [(.v 1), (.v 3)])) (.v 0)], []⟩
theorem okk : rk.ok = true := by kernel_rfl
theorem okh : rk.rh.ok = true := by kernel_rfl
theorem holds (n a mi b q : Int) (l_n : 0 ≤ n) (u_n : n ≤ 1000000) (l_a : 0 ≤ a) (u_a : a ≤ 1000000) (l_mi : 0 ≤ mi) (u_mi : mi ≤ 1000000) (l_b : 0 ≤ b) (u_b : b ≤ 1000000) (h_pre0 : qQq (decide (a+1 ≤ mi)) ≠ 0) (h_pre1 : qQq (decide (mi+1 ≤ b)) ≠ 0) (h_pre2 : qQq (decide (b ≤ n)) ≠ 0) (h_pre3 : qQq (decide (b-a ≤ 4)) ≠ 0) (h_pre4 : (srtZ q a mi) ≠ 0) (h_pre5 : (srtZ q mi b) ≠ 0) : (0 ≤ (0  : Int) ∧ (0  : Int) ≤ 0 ∧ (2 : Int) ≠ 0 ∧ qQq (decide (a+1 ≤ mi)) ≠ 0 ∧ qQq (decide (mi+1 ≤ b)) ≠ 0 ∧ qQq (decide (b ≤ n)) ≠ 0 ∧ (srtZ q a mi) ≠ 0 ∧ (srtZ q mi b) ≠ 0 ∧ qQq (mi-a == 1) ≠ 0 ∧ qQq (0 == ((0  : Int))) ≠ 0) ∨ (0 ≤ (0  : Int) ∧ (0  : Int) ≤ 0 ∧ (2 : Int) ≠ 0 ∧ qQq (decide (a+1 ≤ mi)) ≠ 0 ∧ qQq (decide (mi+1 ≤ b)) ≠ 0 ∧ qQq (decide (b ≤ n)) ≠ 0 ∧ (srtZ q a mi) ≠ 0 ∧ (srtZ q mi b) ≠ 0 ∧ qQq (mi-a != 1) ≠ 0 ∧ qQq (b-mi == 1) ≠ 0 ∧ qQq (0 == ((0  : Int))) ≠ 0) ∨ (0 ≤ (0  : Int) ∧ (0  : Int) ≤ 0 ∧ (2 : Int) ≠ 0 ∧ qQq (decide (a+1 ≤ mi)) ≠ 0 ∧ qQq (decide (mi+1 ≤ b)) ≠ 0 ∧ qQq (decide (b ≤ n)) ≠ 0 ∧ (srtZ q a mi) ≠ 0 ∧ (srtZ q mi b) ≠ 0 ∧ qQq (decide (b-a ≤ 4)) ≠ 0 ∧ qQq (mi-a != 1) ≠ 0 ∧ qQq (b-mi != 1) ≠ 0 ∧ qQq (0 == ((0  : Int))) ≠ 0) := by
 simp only [nrm, Int.reduceEq, Int.reduceNeg, reduceIte] at *
 omega
theorem htabs : ∀ d ∈ tabsL, d.c.vb 0 = true ∧ d.n.vb 0 = true ∧ d.cap.vb 0 = true := fun d hd => by have := List.all_eq_true.1 tabsAll d hd; simp only [Bool.and_eq_true] at this; exact this
theorem ok : RhOk (cxOf 2) rk.rh := fun ρ β w hρ hpre hs => by
 obtain ⟨i, f, v, ro, p⟩ := ρ
 have hf : f = fN := hρ.hF
 subst hf
 have q := hρ.hi
 rcases holds (i 0) (i 1) (i 2) (i 3) (i 4) (q 0 _ rfl).1 (q 0 _ rfl).2 (q 1 _ rfl).1 (q 1 _ rfl).2 (q 2 _ rfl).1 (q 2 _ rfl).2 (q 3 _ rfl).1 (q 3 _ rfl).2 (hpre _ (mg 0 rfl)) (hpre _ (mg 1 rfl)) (hpre _ (mg 2 rfl)) (hpre _ (mg 3 rfl)) (hpre _ (mg 4 rfl)) (hpre _ (mg 5 rfl)) with h | h | h
 ·obtain ⟨hx1, hx2, g0, g1, g2, g3, g4, g5, g6, g7⟩ := h
  exact qQi htabs (m := rk.rh) (p := CSMa.rk.rh) rfl rfl rfl rfl rfl rfl rfl rfl CSMa.ok rfl (fun _ => rfl) (fun _ _ _ h => h) (fun _ => rfl) (fun _ _ _ h => h) (fun _ => rfl) hρ ⟨hx1, hx2⟩ (List.forall_mem_cons.2 ⟨g0, List.forall_mem_cons.2 ⟨g1, List.forall_mem_cons.2 ⟨g2, List.forall_mem_cons.2 ⟨g3, List.forall_mem_cons.2 ⟨g4, List.forall_mem_cons.2 ⟨g5, List.forall_mem_cons.2 ⟨g6, List.forall_mem_cons.2 ⟨g7, (fun _ h => by cases h)⟩⟩⟩⟩⟩⟩⟩⟩) hs
 ·obtain ⟨hx1, hx2, g0, g1, g2, g3, g4, g5, g6, g7, g8⟩ := h
  exact qQi htabs (m := rk.rh) (p := CSMb.rk.rh) rfl rfl rfl rfl rfl rfl rfl rfl CSMb.ok rfl (fun _ => rfl) (fun _ _ _ h => h) (fun _ => rfl) (fun _ _ _ h => h) (fun _ => rfl) hρ ⟨hx1, hx2⟩ (List.forall_mem_cons.2 ⟨g0, List.forall_mem_cons.2 ⟨g1, List.forall_mem_cons.2 ⟨g2, List.forall_mem_cons.2 ⟨g3, List.forall_mem_cons.2 ⟨g4, List.forall_mem_cons.2 ⟨g5, List.forall_mem_cons.2 ⟨g6, List.forall_mem_cons.2 ⟨g7, List.forall_mem_cons.2 ⟨g8, (fun _ h => by cases h)⟩⟩⟩⟩⟩⟩⟩⟩⟩) hs
 ·obtain ⟨hx1, hx2, g0, g1, g2, g3, g4, g5, g6, g7, g8, g9⟩ := h
  exact qQi htabs (m := rk.rh) (p := CSMc2.rk.rh) rfl rfl rfl rfl rfl rfl rfl rfl CSMc2.ok rfl (fun _ => rfl) (fun _ _ _ h => h) (fun _ => rfl) (fun _ _ _ h => h) (fun _ => rfl) hρ ⟨hx1, hx2⟩ (List.forall_mem_cons.2 ⟨g0, List.forall_mem_cons.2 ⟨g1, List.forall_mem_cons.2 ⟨g2, List.forall_mem_cons.2 ⟨g3, List.forall_mem_cons.2 ⟨g4, List.forall_mem_cons.2 ⟨g5, List.forall_mem_cons.2 ⟨g6, List.forall_mem_cons.2 ⟨g7, List.forall_mem_cons.2 ⟨g8, List.forall_mem_cons.2 ⟨g9, (fun _ h => by cases h)⟩⟩⟩⟩⟩⟩⟩⟩⟩⟩) hs
end CSMg2
namespace CSMc3
def rk : Rk := ⟨42, [(0, 0), (0, 1000000), (0, 1000000), (0, 1000000), (0, 1000000)], 6, [.sl (.own 0) 4 (.c 0) (.v 1) none, .int .i64 (.v 2), .int .i64 (.v 3), .int .i64 (.v 4), .func (.func 18) [] []], [.arr [.int .i64, .int .i64, .int .i64, .int .i64] 30 (.v 5) (.v 1)], [(.c 2), (.b .le .i64 (.b .padd .i64 (.v 2) (.c 1)) (.v 3)), (.b .le .i64 (.b .padd .i64 (.v 3) (.c 1)) (.v 4)), (.b .le .i64 (.v 4) (.v 1)), (.f 154 (.v 5) (.v 2) (.v 3)), (.f 154 (.v 5) (.v 3) (.v 4)), (.b .le .i64 (.b .psub .i64 (.v 4) (.v 2)) (.c 8)), (.b .ne .i64 (.b .psub .i64 (.v 3) (.v 2)) (.c 1)), (.b .ne .i64 (.b .psub .i64 (.v 4) (.v 3)) (.c 1)), (.b .eq .i64 (.c 0) (.v 0))], .tup [], [.arr [.int .i64, .int .i64, .int .i64, .int .i64] 30 (.v 1000000) (.v 1)], [.code [.int .i64, .int .i64, .int .i64, .int .i64] (.f 153 (.v 5) (.v 1) (qQs [(.v 2), (.v 4)])) (.v 1)], []⟩
theorem okk : rk.ok = true := by kernel_rfl
theorem okh : rk.rh.ok = true := by kernel_rfl
def mk42_33 : qZd := [([0, 21], .num (-9223372036854775808) (9223372036854775807)), ([0, 20], .num (-9223372036854775808) (9223372036854775807)), ([0, 23], .wilds 1), ([0, 149], .wilds 26)]
noncomputable def us : SMs := fun Γ ins n => smButH 42 rk.args (smH (cxG n Γ ins) [CSRot.rk.rh, CSMg2.rk.rh] (smR (cxG n Γ ins) [CTCmp.rc]))
theorem us_ok : SMsOk us := fun Γ ins n => qXu (qJp (tabsG n Γ ins) (qZw CSRot.okh (rh_n CSRot.ok) (qZw CSMg2.okh (rh_n CSMg2.ok) (qZp _))) (qJh (tabsG n Γ ins) (qJv CTCmp.okb (rc_n CTCmp.ok) (qZr _))))
def tree : TT (List E) := SMcF.tree 4
theorem plain (i v ro p) : statH 2 rk tree ⟨i, fN, v, ro, p⟩ = SMcF.P 4 (i 0) (i 1) (i 2) (i 3) (i 4) (i 5) := by kernel_rfl
theorem ran : ranH us (fun f i => if f = 42 then (match i with | 33 => .tmpl (some mk42_33) | _ => .auto) else .auto) rk 2 tree = true := by kernel_rfl
theorem fineT : fineH 2 rk tree = true := by kernel_rfl
theorem ok : RhOk (cxOf 2) rk.rh := okH us_ok ran fineT (by kernel_rfl) okk fun i v ro p hρ hpre => by rw [plain]; have q := hρ.hi; exact SMcF.holds 8 4 (by omega) (by omega) _ _ _ _ _ _ (q 0 _ rfl).1 (q 0 _ rfl).2 (q 1 _ rfl).1 (q 1 _ rfl).2 (q 2 _ rfl).1 (q 2 _ rfl).2 (q 3 _ rfl).1 (q 3 _ rfl).2 (q 4 _ rfl).1 (q 4 _ rfl).2 (hpre _ (mg 0 rfl)) (hpre _ (mg 1 rfl)) (hpre _ (mg 2 rfl)) (hpre _ (mg 3 rfl)) (hpre _ (mg 4 rfl)) (hpre _ (mg 5 rfl)) (hpre _ (mg 6 rfl)) (hpre _ (mg 7 rfl)) (hpre _ (mg 8 rfl)) (hpre _ (mg 9 rfl))
end CSMc3
end Go.Proofs.Ytieocjnfjjgjeab
