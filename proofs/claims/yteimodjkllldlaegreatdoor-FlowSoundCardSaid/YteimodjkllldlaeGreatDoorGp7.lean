/-
  Parts of the engine, a program's symbolic run, proved sound; and of plain laws.
-/
import Derived.Test.YteimodjkllldlaeGreatDoorGp6
set_option linter.unusedVariables false
set_option linter.unusedSimpArgs false
/-!  -/
noncomputable section
namespace Go.Eng
def exW : Int := qQq 2283798528 (qQq 2418016256 (qQq 2885681152 0))
theorem ex_rd : rdZ exW 0 = 2283798528 ∧ rdZ exW 1 = 2418016256 ∧ rdZ exW 2 = 2885681152 := by
 have h := qXt [2283798528, 2418016256, 2885681152]
 exact ⟨h 0, h 1, h 2⟩
theorem ex0 : (decZ (IntKind.wrap .u32 (rdZ exW 0)) 0 = 34 ∧ decZ (IntKind.wrap .u32 (rdZ exW 0)) 1 = 1 ∧ decZ (IntKind.wrap .u32 (rdZ exW 0)) 2 = 0) ∧ decZ (IntKind.wrap .u32 (rdZ exW 0)) 3 = 0 ∧ decZ (IntKind.wrap .u32 (rdZ exW 0)) 4 = 0 ∧ decZ (IntKind.wrap .u32 (rdZ exW 0)) 5 = 0 := by
 rw [ex_rd.1]; decide
theorem ex1 : (decZ (IntKind.wrap .u32 (rdZ exW 1)) 0 = 36 ∧ decZ (IntKind.wrap .u32 (rdZ exW 1)) 1 = 1 ∧ decZ (IntKind.wrap .u32 (rdZ exW 1)) 2 = 0) ∧ decZ (IntKind.wrap .u32 (rdZ exW 1)) 3 = 0 ∧ decZ (IntKind.wrap .u32 (rdZ exW 1)) 4 = 0 ∧ decZ (IntKind.wrap .u32 (rdZ exW 1)) 5 = 0 := by
 rw [ex_rd.2.1]; decide
theorem ex2 : (decZ (IntKind.wrap .u32 (rdZ exW 2)) 0 = 43 ∧ decZ (IntKind.wrap .u32 (rdZ exW 2)) 1 = 0 ∧ decZ (IntKind.wrap .u32 (rdZ exW 2)) 2 = 0) ∧ decZ (IntKind.wrap .u32 (rdZ exW 2)) 3 = 0 ∧ decZ (IntKind.wrap .u32 (rdZ exW 2)) 4 = 0 ∧ decZ (IntKind.wrap .u32 (rdZ exW 2)) 5 = 0 := by
 rw [ex_rd.2.2]; decide
theorem ex_closed {cS : Int} {K : Prop} (h : rdZ cS 0 ≠ 0 → K) : ClosedL exW 3 1 cS ⟨fun _ => True, fun _ r => r = 1 ∧ K⟩ := by
 refine ⟨fun _ => trivial, fun pc t p0 p1 _ _ hn t0 t1 => ⟨trivial, fun r r0 r1 hb => ?_⟩⟩
 rcases (by omega : pc = 0 ∨ pc = 1 ∨ pc = 2) with rfl | rfl | rfl
 ·obtain ⟨⟨e0, e1, e2⟩, e3, e4, _⟩ := ex0
  rw [e0, e1, e2, e3, e4] at hb
  rcases hb with ⟨_, ⟨k1, k2, _⟩ | ⟨_, k⟩⟩ | ⟨_, k⟩
  ·refine ⟨k1, ?_⟩
   rcases k2 with ⟨g, _⟩ | ⟨g, _⟩ | ⟨_, _, _, g⟩ | ⟨_, g, _⟩
   ·exact absurd g (by decide)
   ·exact absurd g (by decide)
   ·exact h g
   ·exact absurd rfl g
  ·exact k
  ·exact k
 ·obtain ⟨⟨e0, e1, e2⟩, e3, e4, _⟩ := ex1
  rw [e0, e1, e2, e3, e4] at hb
  rcases hb with ⟨g, _⟩ | ⟨_, k⟩
  ·exact absurd g (by unfold putsP; decide)
  ·exact k
 ·obtain ⟨⟨e0, e1, e2⟩, e3, e4, _⟩ := ex2
  rw [e0, e2, e4] at hn
  exact absurd (.inr (.inl rfl)) hn.1
theorem ex_not0 {cS : Int} : ¬ qJh exW 1 cS (qZe exW 3 1 cS) 0 := by
 rintro ⟨_, _, hw⟩
 obtain ⟨⟨e0, e1, e2⟩, e3, e4, _⟩ := ex0
 rw [e0, e1, e2, e3, e4] at hw
 rcases hw with ⟨g, _⟩ | ⟨_, g⟩ | ⟨g, _⟩ | ⟨g, _⟩ | ⟨g, _⟩ | g
 ·exact absurd g (by decide)
 ·exact least_zero 0 g
 ·exact absurd g (by decide)
 ·exact absurd g (by decide)
 ·exact absurd g (by decide)
 ·exact absurd g (by decide)
theorem ex_open {cI : Int} {cS : Int} : ¬ openIn cS cI 0 := fun ⟨_, j0, j1, _⟩ => by omega
theorem ex_sec {cS : Int} (h : rdZ cS 0 ≠ 0) : (qZe exW 3 1 cS).re 1 ∧ (qZe exW 3 1 cS).se 1 1 := by
 have hc := qJm (w := exW) (nc := 3) (nr := 1) (cS := cS)
 obtain ⟨⟨e0, e1, e2⟩, e3, e4, e5⟩ := ex0
 have hn := hc.next 0 1 (by decide) (by decide) (hc.start (by decide)) e5
 rw [e0, e1, e2, e3, e4] at hn
 have hx := hn ⟨by unfold qXm; omega, .inr (.inr ⟨by decide, by decide⟩)⟩ (by decide) (by decide)
 exact ⟨hx.1, hx.2 1 (by decide) (by decide) (.inl ⟨by unfold putsP; omega, .inl ⟨rfl, .inr (.inr (.inl ⟨rfl, rfl, by decide, h⟩)), by decide⟩⟩)⟩
theorem ex_fpc1 {cS cI : Int} (h : rdZ cS 0 ≠ 0) : fpcF exW 3 1 cS cI 0 = 1 := by
 refine fpc_found ex_open (by decide) (by decide) ?_ fun k k0 k1 => by rw [show k = 0 by omega]; exact ex_not0
 obtain ⟨⟨e0, e1, e2⟩, e3, e4, e5⟩ := ex1
 obtain ⟨h1, h2⟩ := ex_sec h
 refine ⟨h1, e5, ?_⟩
 rw [e0, e1, e2, e3, e4]
 exact .inr (.inr (.inr (.inr (.inl ⟨.inl rfl, .inl h2⟩))))
theorem ex_fpc0 {cS cI : Int} (h : rdZ cS 0 = 0) : fpcF exW 3 1 cS cI 0 = 3 := by
 have hno : ∀ p r, ¬ (qZe exW 3 1 cS).se p r := fun p r k => (least_se (ex_closed (K := False) (fun g => g h)) k).2
 refine fpc_none ex_open (by decide) fun k k0 k1 => ?_
 rcases (by omega : k = 0 ∨ k = 1 ∨ k = 2) with rfl | rfl | rfl
 ·exact ex_not0
 ·rintro ⟨_, _, hw⟩
  obtain ⟨⟨e0, e1, e2⟩, e3, e4, _⟩ := ex1
  rw [e0, e1, e2, e3, e4] at hw
  rcases hw with ⟨g, _⟩ | ⟨_, g⟩ | ⟨g, _⟩ | ⟨g, _⟩ | ⟨_, g | g⟩ | g
  ·exact absurd g (by decide)
  ·exact hno _ _ g
  ·exact absurd g (by decide)
  ·exact absurd g (by decide)
  ·exact hno _ _ g
  ·exact hno _ _ g
  ·exact absurd g (by decide)
 ·rintro ⟨_, _, hw⟩
  obtain ⟨⟨e0, e1, e2⟩, e3, e4, _⟩ := ex2
  rw [e0, e1, e2, e3, e4] at hw
  rcases hw with ⟨g, _⟩ | ⟨g, _⟩ | ⟨g, _⟩ | ⟨g, _⟩ | ⟨g, _⟩ | g
  ·exact absurd g (by decide)
  ·exact absurd g (by decide)
  ·exact absurd g (by decide)
  ·exact absurd g (by decide)
  ·exact absurd g (by decide)
  ·exact absurd g (by decide)
theorem ex_word {cS z : Int} (z0 : rdZ z 0 = 1) (z1 : rdZ z 1 = cS) (h : rdZ cS 0 ≠ 0) : IntKind.wrap .u32 (rdZ (sctZ exW 3 z) 1) = 2 := by
 obtain ⟨a1, a2⟩ := sct_rd (w := exW) (nc := 3) z0 z1 (p := 1) (by decide) (by decide)
 have e := bits_ext (a := rdZ (sctZ exW 3 z) 1) (b := 2) fun r r0 r1 => by
  rw [a2 r r0 r1]
  have h2 : bitP 2 r ↔ r = 1 := by
   obtain ⟨k, rfl⟩ : ∃ k : Nat, r = k := ⟨r.toNat, by omega⟩
   unfold bitP
   rw [Int.toNat_natCast, show BitVec.ofInt 32 2 = BitVec.ofNat 32 (2 ^ 1) by decide, BitVec.getLsbD_ofNat, Nat.testBit_two_pow]
   simp only [Bool.and_eq_true, decide_eq_true_eq]
   omega
  rw [h2]
  exact ⟨fun k => (least_se (ex_closed (K := True) (fun _ => trivial)) k).1, fun k => by rw [k]; exact (ex_sec h).2⟩
 rw [e]; decide
theorem ex_chk (cI cO : Int) : chk7 3 1 1 0 0 cI cO = 0 := by
 unfold chk7
 rw [if_neg (by decide), if_neg, if_neg]
 ·unfold twP
  rintro ⟨i, j, h⟩
  omega
 ·rintro (g | g | g)
  ·exact g rfl
  ·exact g fun i hi => by omega
  ·exact g fun i hi => by omega
end Go.Eng
end
