/-
  Parts of the engine, a program's symbolic run, proved sound; and of plain laws.
-/
import Derived.Test.YteimodjkllldladGmZo
set_option linter.unusedVariables false
set_option linter.unusedSimpArgs false

/-!  -/
noncomputable section
namespace Go.Eng
theorem behS_more {nr cS cS' op d a b n : Int} {S : Int → Prop} (h : ∀ j, rdZ cS j ≠ 0 → rdZ cS' j ≠ 0) (r : Int) : behS nr cS op d a b n S r → behS nr cS' op d a b n S r := by
 have hd : dsec nr cS op a b n S → dsec nr cS' op a b n S := by
  rintro (g | g | ⟨g1, g2, g3, g4⟩ | ⟨g1, g2, j, j0, j1, g3⟩)
  ·exact .inl g
  ·exact .inr (.inl g)
  ·exact .inr (.inr (.inl ⟨g1, g2, g3, h _ g4⟩))
  ·exact .inr (.inr (.inr ⟨g1, g2, j, j0, j1, h _ g3⟩))
 rintro (⟨h1, h2⟩ | h1)
 ·exact .inl ⟨h1, putQ_mono (fun _ k => k) hd r h2⟩
 ·exact .inr h1
theorem least_more {w nc nr cS cS' : Int} (h : ∀ j, rdZ cS j ≠ 0 → rdZ cS' j ≠ 0) : ClosedL w nc nr cS (qZc w nc nr cS') := by
 have hc := qXk (w := w) (nc := nc) (nr := nr) (cS := cS')
 exact ⟨hc.start, fun pc t p0 p1 hr h5 hn t0 t1 => ⟨(hc.next pc t p0 p1 hr h5 hn t0 t1).1, fun r r0 r1 hb => (hc.next pc t p0 p1 hr h5 hn t0 t1).2 r r0 r1 (behS_more h r hb)⟩⟩
theorem bandn_zero {x y : Int} (h : ∀ r : Int, 0 ≤ r → r < 32 → bitP x r → bitP y r) : bandn .u32 x y = 0 := by
 have e : bandn .u32 x y = IntKind.wrap .u32 ((BitVec.ofInt 32 x &&& ~~~(BitVec.ofInt 32 y)).toNat : Int) := rfl
 have hb := bits_ext (a := bandn .u32 x y) (b := 0) fun r r0 r1 => by
  rw [e, bit_bv, BitVec.getLsbD_and, Bool.and_eq_true, BitVec.getLsbD_not, Bool.and_eq_true, Bool.not_eq_true']
  constructor
  ·rintro ⟨h1, _, h2⟩
   have := h r r0 r1 h1
   unfold bitP at this
   rw [this] at h2; exact absurd h2 (by decide)
  ·intro k; exact absurd k (qXm r)
 rw [show IntKind.wrap .u32 (0 : Int) = 0 by decide, e, wrap_wrap .u32 .u32 _ (by decide)] at hb
 rw [e]; exact hb
theorem more_in {cS at' : Int} (j : Int) (h : rdZ cS j ≠ 0) : rdZ (updZ (appZ 0 0 cS) at' 1) j ≠ 0 := by
 rw [qQr]
 by_cases e : j.toNat = at'.toNat
 ·rw [if_pos e]; decide
 ·rw [if_neg e, ← qXx, app0_rd _ _ (Int.natCast_nonneg _), qXx]; exact h
theorem sct_more {w nc nr cS cS' z z' p : Int} (h : ∀ j, rdZ cS j ≠ 0 → rdZ cS' j ≠ 0) (z0 : rdZ z 0 = nr) (z1 : rdZ z 1 = cS) (z0' : rdZ z' 0 = nr) (z1' : rdZ z' 1 = cS') (p0 : 0 ≤ p) (p1 : p < nc) :
  bandn .u32 (IntKind.wrap .u32 (rdZ (sctZ w nc z) p)) (IntKind.wrap .u32 (rdZ (sctZ w nc z') p)) = 0 ∧ band .u32 (IntKind.wrap .u32 (rdZ (sctZ w nc z) p)) 1 = 0 := by
 obtain ⟨a1, a2⟩ := sct_rd (w := w) z0 z1 p0 p1
 obtain ⟨b1, b2⟩ := sct_rd (w := w) z0' z1' p0 p1
 rw [a1, b1]
 refine ⟨bandn_zero fun r r0 r1 k => (b2 r r0 r1).2 (least_se (least_more h) ((a2 r r0 r1).1 k)), ?_⟩
 have h1 : shlZ .u32 1 0 = 1 := by decide
 rw [← h1, band_one (by decide) (by decide)]
 exact fun k => least_zero p ((a2 0 (by decide) (by decide)).1 k)
end Go.Eng
end
