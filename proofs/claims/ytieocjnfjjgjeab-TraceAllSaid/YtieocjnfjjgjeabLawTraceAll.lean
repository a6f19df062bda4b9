/-
  The law TraceAll answers true at every input: the law is run by the engine (a symbolic run, proved sound), the tree of its answers, as a plain statement, is shown to hold. No condition.
-/
import Derived.Test.YtieocjnfjjgjeabKa
import Derived.Test.YtieocjnfjjgjeabKe
import Derived.Test.YtieocjnfjjgjeabGab
import Derived.Test.YtieocjnfjjgjeabGib
import Derived.Test.YtieocjnfjjgjeabGp3
import Derived.WalkKit
import Derived.ProofKit
import Derived.OpenShut
import Derived.LaidMore
import Derived.Stop.Joined
import Derived.SevenTiedAt
import Derived.SizedLaws
namespace Go.Proofs.Ytieocjnfjjgjeab.traceAll
open Go.ChangeShapes Go.WideShapes Go.ChangeAt Go.Eng Go.RowKit
set_option linter.unusedVariables false
set_option linter.unusedSimpArgs false
set_option maxRecDepth 100000
def rc : Rc := ⟨3, [none], [.row [.int .i64, .int .i64, .int .i64] 140737488355328], [], .one, [.bool (.c 1)]⟩
theorem okb : rc.ok = true := by kernel_rfl
noncomputable def us : SMs := fun Γ ins n => smH (cxG n Γ ins) [] (smAnd 5 (libRows Γ ins n) (smR (cxG n Γ ins) [CRHeats17.rc, CTTop.rc, CAwake17.rc]))
theorem us_ok : SMsOk us := fun Γ ins n => qJp (tabsG n Γ ins) (qZp _) (smAnd_ok (libRows_ok Γ ins n) (qJh (tabsG n Γ ins) (qJv CRHeats17.okb (rc_n CRHeats17.ok) (qJv CTTop.okb (rc_n CTTop.ok) (qJv CAwake17.okb (rc_n CAwake17.ok) (qZr _))))))
def Q0 : E := (.cl 1003 0 4611686018427387904)
def Q1 : E := (.b .psub .i64 (.v 0) (.c 1))
def Q2 : E := (.b .psub .i64 Q1 Q0)
def Q3 : E := (.cl 1001 0 1000000)
def Q4 : E := (tp Q3 (.c 1))
def Q5 : E := (tl Q4 (.c 1000000))
def Q6 : E := (tp Q0 (.c 1))
def Q7 : E := (tR (.v 1) Q2)
def Q8 : E := (.cl 1002 (-9223372036854775808) 9223372036854775807)
def Q9 : E := (.cl 1009 0 4611686018427387904)
def Q10 : E := (.f 157 (.v 1) (.v 0) (.c 0))
def Q11 : E := (tp Q9 (.c 1))
def Q12 : E := (.cl 1007 (-9223372036854775808) 9223372036854775807)
def Q13 : E := (.f 158 (.v 1) (.v 0) (.c 0))
def Q14 : E := (tR Q13 Q9)
def Q15 : E := (.cl 1008 (-9223372036854775808) 9223372036854775807)
def Q16 : E := (.f 159 (.v 1) (.v 0) (.v 0))
def Q17 : E := (.f 157 (.v 1000) Q3 (.c 0))
def Q18 : E := (.cl 1014 1 4611686018427387904)
def Q19 : E := (.f 160 (.v 1) (.v 0) (.v 0))
def Q20 : E := (.b .psub .i64 Q18 (.c 1))
def Q21 : E := (tp Q18 (.c 1))
def tree : TT (List E) :=
 (.br (tk (.c 300) (.v 0)) (.leaf [(.c 1)]) (.loop ⟨1000, [none, some (0, 1000000), some (-9223372036854775808, 9223372036854775807), some (0, 4611686018427387904)], [(.c 0), (.c 0), (.c 0), (.c 0)], 1005⟩ (.br (tk Q0 (.v 0)) (.br (tl (.c 0) Q2) (.br (tk Q2 (.v 0)) (.br Q5 (.br Q5 (.br (tl Q6 (.c 4611686018427387904)) (.back [(.f 14 (.v 1000) Q3 (tC (t6 (tR Q7 (.c 0))) (tC (t6 (tR Q7 (.c 1))) (tC (t6 (tR Q7 (.c 2))) (.c 0))))), Q4, (t6 (tp Q8 (t6 (tR (tR (.v 1) Q0) (.c 2))))), Q6]) (.bad 303)) (.bad 303)) (.bad 200)) (.bad 200)) (.bad 200)) (.exit 0)) (.br (tl (.v 0) (.c 1000000)) (.br (tl (.v 0) (.v 2)) (.br (tl (.v 0) (.c 300)) (.loop ⟨1007, [some (-9223372036854775808, 9223372036854775807), some (-9223372036854775808, 9223372036854775807), some (0, 4611686018427387904)], [Q8, (.c 0),
 (.c 0)], 1011⟩ (.br (tk Q9 Q10) (.br (tl Q11 (.c 4611686018427387904)) (.back [(t6 (.b .psub .i64 Q12 (t6 (tR Q14 (.c 3))))), (t6 (tp Q15 (t6 (tR Q14 (.c 2))))), Q11]) (.bad 303)) (.exit 0)) (.br (tn Q15 (.v 0)) (.leaf [(.c 0)]) (.br (tn Q12 (.c 0)) (.leaf [(.c 0)]) (.br (tn Q16 Q10) (.leaf [(.c 0)]) (.new 1013 (.ite (te Q17 Q10) (.f 161 (.f 158 (.v 1000) Q3 (.c 0)) Q13 Q17) (.c 0)) (.br (.nt (.cl 1013 0 1)) (.leaf [(.c 0)]) (.loop ⟨1014, [some (1, 4611686018427387904)], [(.c 1)], 1018⟩ (.br (tk Q18 Q16) (.new 1016 (t6 (tR (tR Q19 Q18) (.c 3))) (.br (tk Q20 Q16) (.new 1017 (t6 (tR (tR Q19 Q20) (.c 3))) (.br (tk (.cl 1017 (-9223372036854775808) 9223372036854775807) (.cl 1016 (-9223372036854775808) 9223372036854775807)) (.exit 0) (.br (tl Q21 (.c 4611686018427387904)) (.back [Q21]) (.bad
 303)))) (.bad 200))) (.exit 1)) (.br (te (.v 1018) (.c 0)) (.leaf [(.c 0)]) (.leaf [(.c 1)]))))))))) (.bad 200)) (.bad 200)) (.bad 200))))


def P (a b c : Int) : Prop :=
 (Pb (Pl 300 a) Pt (∃ I1000 : Int → Int → Int → Int → Nat → Prop, (∃ m, I1000 0 0 0 0 m) ∧ ∀ y0 y1 y2 y3 : Int, ∀ m0, (True ∧ (0 ≤ y1 ∧ y1 ≤ 1000000) ∧ ((-9223372036854775808) ≤ y2 ∧ y2 ≤ 9223372036854775807) ∧ (0 ≤ y3 ∧ y3 ≤ 4611686018427387904) ∧ True) → I1000 y0 y1 y2 y3 m0 → (Pb (Pl y3 a) (Pm (PL 0 ((a - 1) - y3)) (Pm (Pl ((a - 1) - y3) a) (Pm (PL (y1 + 1) 1000000) (Pm (PL (y1 + 1) 1000000) (Pm (PL (y3 + 1) 4611686018427387904) (∃ m', m' < m0 ∧ I1000 (updZ y0 y1 (kZ (W6 (rdZ (rdZ b ((a - 1) - y3)) 0)) (kZ (W6 (rdZ (rdZ b ((a - 1) - y3)) 1)) (kZ (W6 (rdZ (rdZ b ((a - 1) - y3)) 2)) 0)))) (y1 + 1) (W6 (y2 + (W6 (rdZ (rdZ b y3) 2)))) (y3 + 1) m')))))) (Pm (PL a 1000000) (Pm (PL a c) (Pm (PL a 300) (∃ I1007 : Int → Int → Int → Nat → Prop, (∃ m, I1007 y2 0 0 m) ∧ ∀ y7 y8 y9 : Int, ∀ m7,
 (((-9223372036854775808) ≤ y7 ∧ y7 ≤ 9223372036854775807) ∧ ((-9223372036854775808) ≤ y8 ∧ y8 ≤ 9223372036854775807) ∧ (0 ≤ y9 ∧ y9 ≤ 4611686018427387904) ∧ True) → I1007 y7 y8 y9 m7 → (Pb (Pl y9 (hrwN b a)) (Pm (PL (y9 + 1) 4611686018427387904) (∃ m', m' < m7 ∧ I1007 (W6 (y7 - (W6 (rdZ (rdZ (hrwZ b a) y9) 3)))) (W6 (y8 + (W6 (rdZ (rdZ (hrwZ b a) y9) 2)))) (y9 + 1) m')) (Pb (Pd y8 a) Pf (Pb (Pd y7 0) Pf (Pb (Pd (topN b a a) (hrwN b a)) Pf (Pn (iteZ (Pe (hrwN y0 y1) (hrwN b a)) (smhZ (hrwZ y0 y1) (hrwZ b a) (hrwN y0 y1)) 0) 0 1 fun y13 => (Pb (Pe y13 0) Pf (∃ I1014 : Int → Nat → Prop, (∃ m, I1014 1 m) ∧ ∀ y14 : Int, ∀ m14, ((1 ≤ y14 ∧ y14 ≤ 4611686018427387904) ∧ True) → I1014 y14 m14 → (Pb (Pl y14 (topN b a a)) (Pn (W6 (rdZ (rdZ (topZ b a a) y14) 3)) (-9223372036854775808)
 9223372036854775807 fun y16 => (Pm (Pl (y14 - 1) (topN b a a)) (Pn (W6 (rdZ (rdZ (topZ b a a) (y14 - 1)) 3)) (-9223372036854775808) 9223372036854775807 fun y17 => (Pb (Pl y17 y16) (Pb (Pe (0 : Int) 0) Pf Pt) (Pm (PL (y14 + 1) 4611686018427387904) (∃ m', m' < m14 ∧ I1014 (y14 + 1) m')))))) (Pb (Pe (1 : Int) 0) Pf Pt))))))))))))))))

theorem smh_self (c n : Int) : smhZ c c n = 1 := by unfold smhZ; rw [if_pos fun _ _ => rfl]
theorem topz_el {c n : Int} {i : Nat} (h : i < (topL c n n).length) : elH (topZ c n n) i = (topL c n n)[i] := by
  refine el_LZ (fun x hx => ?_) h
  unfold topL at hx
  have := List.mem_of_mem_take hx
  rw [(st_perm _).mem_iff] at this
  exact hrw_w _ _ x this
set_option maxHeartbeats 4000000 in
theorem holds (n0 c0 r0 : Int) (l_n0 : 0 ≤ n0) (u_n0 : n0 ≤ 140737488355328) (h_n0 : n0 ≤ r0) : P n0 c0 r0 := by
  delta P Pb Pm Pn Pf Pt PL Pl Pe Pd W6 kZ
  simp only [nrm, Int.reduceEq, Int.reduceNeg, reduceIte]
  refine ⟨fun _ => trivial, fun h300 => ?_⟩
  refine ⟨fun y a b i m => 0 ≤ i ∧ i ≤ n0 ∧ a = i ∧ m = (n0 - i).toNat ∧ b = IntKind.wrap .i64 (sumC c0 i.toNat) ∧ ∀ j : Nat, (j : Int) < i → elM y j = elM c0 (n0 - 1 - j).toNat, ⟨_, by omega, l_n0, rfl, rfl, rfl, fun j hj => by omega⟩, ?_⟩
  rintro y a b i m _ ⟨i0, i1, rfl, rfl, hb, hI⟩
  refine ⟨fun hi => ?_, fun hi => ?_⟩
  · repeat' (first | exact False.elim (by omega) | (refine And.intro (fun _ => ?_) (fun _ => ?_)))
    all_goals first
      | (exfalso; omega)
      | skip
    refine ⟨_, by omega, by omega, by omega, rfl, rfl, ?_, fun j hj => ?_⟩
    · rw [hb, show (a + 1).toNat = a.toNat + 1 by omega, Go.Eng.wrap_add]
      rw [show sumC c0 (a.toNat + 1) = sumC c0 a.toNat + IntKind.wrap .i64 (rdZ (rdZ c0 (a.toNat : Int)) 2) from rfl, Int.toNat_of_nonneg i0]
    · unfold elM
      rw [qJw]
      by_cases e : (j : Int) = a
      · have e0 : ((n0 - 1 - (j : Int)).toNat : Int) = n0 - 1 - a := by omega
        rw [if_pos (by omega), e0]
        have := rd_l3 (IntKind.wrap .i64 (rdZ (rdZ c0 (n0 - 1 - a)) 0)) (IntKind.wrap .i64 (rdZ (rdZ c0 (n0 - 1 - a)) 1)) (IntKind.wrap .i64 (rdZ (rdZ c0 (n0 - 1 - a)) 2))
        rw [this.1, this.2.1, this.2.2, ww, ww, ww]
      · rw [if_neg (by omega)]
        exact hI j (by omega)
  · have ei : a = n0 := by omega
    subst ei
    have en : min a.toNat 1000000 = a.toNat := by omega
    have hN : hrwN c0 a = (hrwL c0 a.toNat).length := by unfold hrwN; rw [en]
    have hNl := hrwL_len c0 a.toNat
    have hZ : hrwZ c0 a = LZ ((hrwL c0 a.toNat).map cdH) := by unfold hrwZ; rw [en]
    have hel : ∀ k : Nat, k < (hrwL c0 a.toNat).length → ∀ (hk : k < (hrwL c0 a.toNat).length), elH (hrwZ c0 a) k = (hrwL c0 a.toNat)[k] := fun k _ hk => by rw [hZ]; exact el_LZ (hrw_w c0 _) hk
    have hturn : hrwL y a.toNat = hrwL c0 a.toNat := hrw_turned fun j hj => by
      rw [hI j (by omega)]; congr 1; omega
    have hN2 : hrwN y a = hrwN c0 a := by unfold hrwN; rw [en, hturn]
    have hZ2 : hrwZ y a = hrwZ c0 a := by unfold hrwZ; rw [en, hturn]
    have htop : topN c0 a a = hrwN c0 a := by
      have := st_len (hrwL c0 a.toNat)
      unfold topN topL
      rw [en, List.length_take, this, hN]
      omega
    refine ⟨fun _ => ⟨fun _ => ⟨fun _ => ?_, fun h => by omega⟩, fun h => by omega⟩, fun h => by omega⟩
    obtain ⟨⟨k1, hs1⟩, ⟨k2, hs2⟩⟩ := sum_hrw c0 a.toNat
    refine ⟨fun u t k m => 0 ≤ k ∧ k ≤ hrwN c0 a ∧ m = (hrwN c0 a - k).toNat ∧ u = IntKind.wrap .i64 (sumC c0 a.toNat - sumK ((hrwL c0 a.toNat).take k.toNat)) ∧ t = IntKind.wrap .i64 (sumT ((hrwL c0 a.toNat).take k.toNat)), ⟨_, by omega, by omega, rfl, by simp [sumK, hb], by simp [sumT]; decide⟩, ?_⟩
    rintro u t k m _ ⟨k0, k1', rfl, rfl, rfl⟩
    refine ⟨fun hk => ⟨fun _ => ?_, fun h => by omega⟩, fun hk => ?_⟩
    · have hkl : k.toNat < (hrwL c0 a.toNat).length := by omega
      obtain ⟨g1, g2⟩ := sumT_take (hrwL c0 a.toNat) k.toNat hkl
      have he := hel k.toNat hkl hkl
      have hat := elH_at (z := hrwZ c0 a) k0
      rw [he] at hat
      refine ⟨_, by omega, by omega, by omega, rfl, ?_, ?_⟩
      · rw [hat.2.2.2, wrap_sub, show (k + 1).toNat = k.toNat + 1 by omega, g2]
        congr 1; show (_ : Int) = _; omega
      · rw [hat.2.2.1, Go.Eng.wrap_add, show (k + 1).toNat = k.toNat + 1 by omega, g1]
    · have hkk : (hrwL c0 a.toNat).take k.toNat = hrwL c0 a.toNat := List.take_of_length_le (by omega)
      have t1 : IntKind.wrap .i64 (sumT ((hrwL c0 a.toNat).take k.toNat)) = a := by
        rw [hkk, wrap_mod (k := k1) (y := a) (by rw [hs1]; omega)]
        exact qXk .i64 _ (by show (-9223372036854775808 : Int) ≤ _; omega) (by show _ ≤ (9223372036854775807 : Int); omega)
      have t2 : IntKind.wrap .i64 (sumC c0 a.toNat - sumK ((hrwL c0 a.toNat).take k.toNat)) = 0 := by
        rw [hkk, wrap_mod (k := -k2) (y := 0) (by rw [hs2]; omega)]
        rfl
      rw [t1, t2, htop, hN2, hZ2, smh_self]
      refine ⟨fun h => absurd rfl h, fun _ => ⟨fun h => absurd rfl h, fun _ => ⟨fun h => absurd rfl h, fun _ => ?_⟩⟩⟩
      intro y1 hy1 _
      have hy1 : y1 = 1 := by
        rw [hy1, if_pos rfl]
      subst hy1
      have hlt : (topL c0 a a).length = (hrwN c0 a).toNat := by
        have : topN c0 a a = (topL c0 a a).length := rfl
        omega
      refine ⟨fun h => absurd h (by decide), fun _ => ?_⟩
      refine ⟨fun i m => 1 ≤ i ∧ m = (hrwN c0 a - i).toNat, ⟨_, Int.le_refl _, rfl⟩, ?_⟩
      rintro i m _ ⟨i1', rfl⟩
      refine ⟨fun hi => ?_, fun hi => trivial⟩
      intro y2 hy2 _
      refine ⟨fun _ => ?_, fun h => by omega⟩
      intro y3 hy3 _
      have e2 := (elH_at (z := topZ c0 a a) (t := i) (by omega)).2.2.2
      have e3 := (elH_at (z := topZ c0 a a) (t := i - 1) (by omega)).2.2.2
      rw [topz_el (by omega)] at e2
      rw [topz_el (by omega)] at e3
      have hd : DnS (topL c0 a a) := by
        unfold topL
        exact (st_sorted _).sublist (List.take_sublist _ _)
      have hle := (List.pairwise_iff_getElem.1 hd) (i - 1).toNat i.toNat (by omega) (by omega) (by omega)
      rw [hy2, hy3, e2, e3]
      refine ⟨fun h => absurd hle (by unfold cH; omega), fun _ => ?_⟩
      exact ⟨fun _ => ⟨(hrwN c0 a - (i + 1)).toNat, by omega, by omega, rfl⟩, fun h => by omega⟩

theorem plain (i v ro p) : statR 2 rc tree ⟨i, fN, v, ro, p⟩ = P (i 0) (i 1) (i 2) := by kernel_rfl
theorem ran : ranR us (fun _ _ => .auto) rc 2 tree = true := by kernel_rfl
theorem fineT : fineR 2 rc tree = true := by kernel_rfl
theorem ok : RcOk (cxOf 2) rc := okR us_ok ran fineT okb fun i v ro p hρ hcap hpre => by rw [plain]; have q := hρ.hi; exact holds _ _ _ (q 0 _ rfl).1 (q 0 _ rfl).2 (hcap _ (mg 0 rfl))

theorem walk (w : World) (a0 : RO) (k0 : a0.cks = [.int .i64, .int .i64, .int .i64]) (n0 : a0.a = none → a0.n = 0) (m0 : a0.n ≤ a0.cap) (t0 : RoAt w a0) (b0 : (a0.n : Int) ≤ 140737488355328) :
    Calls Try.prog 3 #[.slice a0.a a0.n a0.cap] w fun e w' => e = .returned (.bool true) ∧ Below w.heap.size w w' := by
  refine law_of (cx := cxOf 2) ok ⟨rfl, rfl, rfl⟩ (ρ := envR Try.prog [(a0.n : Int), a0.c, (a0.cap : Int)] [a0]) (envR_ok (cx := rc.cx (cxOf 2)) rfl rfl (bnd_cons ⟨Int.natCast_nonneg _, b0⟩ (bnd_nil _)) ⟨⟨k0, rfl, (Int.toNat_natCast _).symm, (Int.toNat_natCast _).symm, n0, fun g h => by cases h⟩, trivial⟩) (fun d hd => by
    simp only [show qKz rc.b rc.c rc.ls 0 0 0 = [⟨[.int .i64, .int .i64, .int .i64], .v 1, .v 0, .v 2, none⟩] from rfl, List.mem_cons, List.not_mem_nil, or_false] at hd
    rcases hd with rfl
    · exact Int.ofNat_le.2 m0) (roOk_of ⟨t0, trivial⟩) ?_
  rw [show rc.args = [.sl (.inp 0) 3 (.c 0) (.v 0) (some (.v 2))] from rfl]
  simp only [SV.denL, SV.den, E.ev, map_addr_zero]
  rfl
theorem lifted (os : Os) (started : os.Started) (H : Type) (enc : TypeId × Value → H) :
    ReturnsInHanded {} Try.checked os 3 .any (Rows.traceAllSpec.pre6 enc Try.prog Try.f3 Rows.traceAllRow.domain false) (Rows.traceAllSpec.post enc Try.prog Try.f3 false true false false) := by
  refine returnsInHanded_of_change_sized (C := Try.checked) own started (by kernel_rfl) Try.func3
    (ChangeSpec.witness6 (enc := enc) (C := Try.checked) false ⟨#[], #[.slice none 0 0], []⟩ 8 (by kernel_rfl) (by kernel_rfl) (by kernel_rfl) (by kernel_rfl)) ?_
  intro W base args ds gs before hval0 hW hcnd hw0 _
  have hval : ∀ (j : Nat) t v, Try.f3.params[j]? = some t → args[j]? = some v → Value.okWide Try.prog W .any base t v := hval0
  have hW' := hW
  obtain ⟨p, q, hA0, hV, rfl, hfz, hnd⟩ := hW
  have hA : DataW.TrodAll enc Try.prog W 0 (fun _ => true) true Try.f3.params.toList args.toList ds p := hA0
  have hw := hw0
  rw [Try.params3] at hA hval hw
  obtain ⟨v0, vs0, d0, ds0, p0, q0, hargs, rfl, rfl, h0, r0⟩ := trodAll_cons hA
  have h0k := h0
  obtain ⟨rfl, rfl, rfl⟩ := trodAll_nil r0
  obtain rfl : args = #[v0] := by cases args; simp_all
  obtain ⟨rfl, rfl⟩ := trodVars_none hV
  obtain ⟨a0, k0, rfl, n0, m0, t0, b0, _⟩ := Go.Eng.open_row (ks := [.int .i64, .int .i64, .int .i64]) Try.underlying22 (ElT.struct Try.underlying25 (by kernel_rfl) (by kernel_rfl) (by first | exact ⟨by simp only [CkT]; kernel_rfl, by simp only [CkT]; kernel_rfl, by simp only [CkT]; kernel_rfl, trivial⟩) (by decide)) (by decide) (of_decide_eq_true (by kernel_rfl)) (by kernel_rfl) (hval 0 22 v0 rfl rfl) h0 (weights_of (gs := []) hw (j := 0) (t := 22) rfl rfl)
  clear hA0 hval0
  refine (walk W a0 k0 n0 m0 t0 b0).mono fun e W' ⟨he, hg⟩ => ?_
  subst he
  have hin0 : ∀ x ∈ p0, x ∈ p0 ++ [] ++ [] := fun x hx => by simp [hx]
  have hlt0 : ∀ x ∈ p0, x.block < W.heap.size := fun x hx => by simpa using hW'.lt x (by simp [hx])
  exact ⟨_, rfl, post_below (pa := _) (pv := []) hW' hg (fun _ _ _ => (trodAll_cons_mk (shut_bool Try.underlying4 _) trodAll_mk0)) (fun sp hsp => (trodAll_cons_mk (WideElems.Trod_stays laidOut (by kernel_rfl) (of_decide_eq_true (by kernel_rfl)) h0k (fun x hx => hg.same (hlt0 x hx)) (fun x hx => hsp x (hin0 x hx))) trodAll_mk0)) (fun _ _ => rfl) (by simp)
    (ok_one (by kernel_rfl) rfl (okWide_bool_mk Try.underlying4 _))⟩

theorem over : Rows.traceAllRow.holds Try.pinned (OpenSpec.ofChange Rows.traceAllSpec) :=
  OpenClaim.holds_of_wide 3 Try.f3 rfl rfl rfl rfl rfl rfl rfl ⟨rfl, rfl, rfl, rfl, rfl⟩ rfl rfl rfl rfl rfl (by kernel_rfl) Try.func3 (by kernel_rfl)
    (of_decide_eq_true (by kernel_rfl)) (by unfold Func.isWrapper; first | (rw [if_pos (by decide +kernel)]; kernel_rfl) | (rw [if_neg (by decide +kernel)]; exact ⟨rfl, rfl⟩))
    (fun os started H enc _ => lifted os started H enc)

/-- the statement -/
theorem proved : Rows.TraceAllSaid :=
  over
#print axioms proved
end Go.Proofs.Ytieocjnfjjgjeab.traceAll
