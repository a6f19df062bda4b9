/-
  Parts of the engine, a program's symbolic run, proved sound; and of plain laws.
-/
import Derived.Test.YteimodjkllldladGmZj
set_option linter.unusedVariables false
set_option linter.unusedSimpArgs false

/-!  -/
noncomputable section
namespace Go.Eng
theorem band_one {s d : Int} (d0 : 0 ≤ d) (d1 : d < 32) : band .u32 s (shlZ .u32 1 d) = 0 ↔ ¬ bitP s d := and_one d0 d1
theorem orW_zero {x y : Int} (hx : IntKind.wrap .u32 x = x) (hy : IntKind.wrap .u32 y = y) : orW x y = 0 ↔ x = 0 ∧ y = 0 := by
 constructor
 ·intro h
  have hb : ∀ r, ¬ bitP x r ∧ ¬ bitP y r := fun r => by
   have := bit_or x y r
   rw [h] at this
   exact ⟨fun g => qXm r (this.2 (.inl g)), fun g => qXm r (this.2 (.inr g))⟩
  have z : IntKind.wrap .u32 0 = 0 := by decide
  have e1 := bits_ext (a := x) (b := 0) fun r _ _ => ⟨fun g => absurd g (hb r).1, fun g => absurd g (qXm r)⟩
  have e2 := bits_ext (a := y) (b := 0) fun r _ _ => ⟨fun g => absurd g (hb r).2, fun g => absurd g (qXm r)⟩
  exact ⟨by rw [← hx, e1, z], by rw [← hy, e2, z]⟩
 ·rintro ⟨rfl, rfl⟩; decide
theorem band_wrap (x y : Int) : IntKind.wrap .u32 (band .u32 x y) = band .u32 x y := by unfold band; exact wrap_wrap .u32 .u32 _ (by decide)
theorem bor_two {s a b : Int} (a0 : 0 ≤ a) (a1 : a < 32) (b0 : 0 ≤ b) (b1 : b < 32) : bor .u32 (band .u32 s (shlZ .u32 1 a)) (band .u32 s (shlZ .u32 1 b)) = 0 ↔ ¬ bitP s a ∧ ¬ bitP s b := by
 have h : bor .u32 (band .u32 s (shlZ .u32 1 a)) (band .u32 s (shlZ .u32 1 b)) = orW (band .u32 s (shlZ .u32 1 a)) (band .u32 s (shlZ .u32 1 b)) := rfl
 rw [h, orW_zero (band_wrap _ _) (band_wrap _ _), band_one a0 a1, band_one b0 b1]
theorem fse_zero {op a b n s nS cS m : Int} : fseZ op a (qQq b (qQq n (qQq s (qQq nS (qQq cS (qQq m 0)))))) = 0 ↔ ¬ ((op ≤ 23 ∧ bitP s b) ∨ (op ≤ 32 ∧ bitP s a) ∨ (op = 34 ∧ a = 0 ∧ rdZ cS n ≠ 0) ∨ (op = 34 ∧ a ≠ 0 ∧ m ≠ 0)) := by
 obtain ⟨⟨e0, e1, e2⟩, e3, e4, e5⟩ := ch6 b n s nS cS m
 unfold fseZ
 rw [e0, e1, e2, e4, e5]
 split
 ·rename_i h; exact ⟨fun k => absurd k (by decide), fun k => absurd h k⟩
 ·rename_i h; exact ⟨fun _ => h, fun _ => rfl⟩
theorem lrc_ev (nc pc s v : Int) : lrcZ nc pc (qQq s (qQq v 0)) = if pc < nc ∧ ¬ (IntKind.wrap .u32 (rdZ (rdZ v pc) 0) = 1 ∧ IntKind.wrap .u32 (rdZ (rdZ v pc) 1) = orW (IntKind.wrap .u32 (rdZ (rdZ v pc) 1)) s) then 1 else 0 := by
 unfold lrcZ
 rw [(qXw s v).1, (qXw s v).2]
theorem lrc_at {nc pc s v : Int} (h : pc < nc) : (if 1 = IntKind.wrap .u32 (rdZ (rdZ v pc) 0) then if bor .u32 (IntKind.wrap .u32 (rdZ (rdZ v pc) 1)) s = IntKind.wrap .u32 (rdZ (rdZ v pc) 1) then (1 : Int) else 0 else 0) = 0 ↔ lrcZ nc pc (qQq s (qQq v 0)) ≠ 0 := by
 rw [lrc_ev]
 have e : bor .u32 (IntKind.wrap .u32 (rdZ (rdZ v pc) 1)) s = orW (IntKind.wrap .u32 (rdZ (rdZ v pc) 1)) s := rfl
 rw [e]
 by_cases g1 : IntKind.wrap .u32 (rdZ (rdZ v pc) 0) = 1
 ·by_cases g2 : IntKind.wrap .u32 (rdZ (rdZ v pc) 1) = orW (IntKind.wrap .u32 (rdZ (rdZ v pc) 1)) s
  ·rw [if_pos g1.symm, if_pos g2.symm, if_neg (fun k => k.2 ⟨g1, g2⟩)]; simp
  ·rw [if_pos g1.symm, if_neg (fun k => g2 k.symm), if_pos ⟨h, fun k => g2 k.2⟩]; simp
 ·rw [if_neg (fun k => g1 k.symm), if_pos ⟨h, fun k => g1 k.1⟩]; simp
theorem num_of (p : Prop) : ∃ x : Int, p ↔ x ≠ 0 := by
 by_cases h : p
 ·exact ⟨1, fun _ => by decide, fun _ => h⟩
 ·exact ⟨0, fun k => absurd k h, fun k => absurd rfl k⟩
end Go.Eng
end
