/-
  Parts of the engine, a program's symbolic run, proved sound; and of plain laws.
-/
import Derived.Test.YteimodjkllldladGmX
set_option linter.unusedVariables false
set_option linter.unusedSimpArgs false

/-!  -/
noncomputable section
namespace Go.Eng
theorem putQ_mono {S S' : Int → Prop} {d : Int} {p p' : Prop} (hs : ∀ r, S r → S' r) (hp : p → p') (r : Int) : putQ S d p r → putQ S' d p' r := by
 rintro (⟨h1, h2, h3⟩ | ⟨h1, h2⟩)
 ·exact .inl ⟨h1, hp h2, h3⟩
 ·exact .inr ⟨h1, hs r h2⟩
theorem dsec_mono {nr cS op a b n : Int} {S S' : Int → Prop} (hs : ∀ r, S r → S' r) : dsec nr cS op a b n S → dsec nr cS op a b n S' := by
 rintro (⟨h1, h2⟩ | ⟨h1, h2⟩ | h | h)
 ·exact .inl ⟨h1, h2.imp (hs a) fun k => ⟨k.1, hs b k.2⟩⟩
 ·exact .inr (.inl ⟨h1, hs a h2⟩)
 ·exact .inr (.inr (.inl h))
 ·exact .inr (.inr (.inr h))
theorem behS_mono {nr cS op d a b n : Int} {S S' : Int → Prop} (hs : ∀ r, S r → S' r) (r : Int) : behS nr cS op d a b n S r → behS nr cS op d a b n S' r := by
 rintro (⟨h1, h2⟩ | ⟨h1, h2⟩)
 ·exact .inl ⟨h1, putQ_mono hs (dsec_mono hs) r h2⟩
 ·exact .inr ⟨h1, hs r h2⟩
section
variable {w nc nr cS : Int}
theorem qXk : ClosedL w nc nr cS (qZc w nc nr cS) := by
 refine ⟨fun h L hL => hL.start h, fun pc t h0 h1 hr h5 hn t0 t1 => ⟨fun L hL => (hL.next pc t h0 h1 (hr L hL) h5 hn t0 t1).1, fun r r0 r1 hb L hL => ?_⟩⟩
 exact (hL.next pc t h0 h1 (hr L hL) h5 hn t0 t1).2 r r0 r1 (behS_mono (fun q hq => hq L hL) r hb)
theorem least_re {L : Lv} (hL : ClosedL w nc nr cS L) {pc : Int} (h : (qZc w nc nr cS).re pc) : L.re pc := h L hL
theorem least_se {L : Lv} (hL : ClosedL w nc nr cS L) {pc r : Int} (h : (qZc w nc nr cS).se pc r) : L.se pc r := h L hL
theorem least_zero (pc : Int) : ¬ (qZc w nc nr cS).se pc 0 := fun h => by
 have hc := qXk (w := w) (nc := nc) (nr := nr) (cS := cS)
 have := h ⟨fun _ => True, fun p r => r ≠ 0⟩ ⟨fun _ => trivial, fun p t _ _ _ _ _ _ _ => ⟨trivial, fun r _ _ hb => ?_⟩⟩
 ·exact this rfl
 ·rcases hb with ⟨_, ⟨h1, _, h3⟩ | ⟨_, h2⟩⟩ | ⟨_, h2⟩
  ·show r ≠ 0; rw [h1]; exact h3
  ·exact h2
  ·exact h2
theorem fpc_ev {cI nI : Int} (x : Int) : (rdZ (qQq x (qQq cS (qQq cI (qQq nI 0)))) 0 = x ∧ rdZ (qQq x (qQq cS (qQq cI (qQq nI 0)))) 1 = cS) ∧ rdZ (qQq x (qQq cS (qQq cI (qQq nI 0)))) 2 = cI ∧ rdZ (qQq x (qQq cS (qQq cI (qQq nI 0)))) 3 = nI := by
 have h := rd_chn [x, cS, cI, nI]
 exact ⟨⟨h 0, h 1⟩, h 2, h 3⟩
open Classical in
end
end Go.Eng
end
