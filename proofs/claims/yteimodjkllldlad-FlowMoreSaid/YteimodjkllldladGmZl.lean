/-
  Parts of the engine, a program's symbolic run, proved sound; and of plain laws.
-/
import Derived.Test.YteimodjkllldladGmZk
set_option linter.unusedVariables false
set_option linter.unusedSimpArgs false

/-!  -/
noncomputable section
namespace Go.Eng
theorem dec_ok5 {x : Int} : decZ x 0 ≠ 0 ↔ decZ x 5 = 0 := by
 unfold decZ
 simp only [show (5 : Int) = 5 ↔ True by simp, show (0 : Int) = 5 ↔ False by decide, if_true, if_false]
 by_cases h : decP (x % 4294967296)
 ·simp only [h, not_true_eq_false, if_false, if_true, show (0 : Int) = 0 ↔ True by simp]
  refine ⟨fun _ => trivial, fun _ => ?_⟩
  have := h
  unfold decP at this
  omega
 ·simp only [h, not_false_eq_true, if_true, if_false]
  refine ⟨fun k => absurd rfl k, fun k => ?_⟩
  split at k <;> exact absurd k (by decide)
theorem lps_ev {op d a b n pc nc nr cS m s V W k R : Int} (h : R = lpsZ op d (qQq a (qQq b (qQq n (qQq pc (qQq nc (qQq nr (qQq cS (qQq m (qQq s (qQq V (qQq W (qQq k 0))))))))))))) :
  rdZ R 0 = (lpsT op d a b n pc nc nr cS m s (V, W, k)).1 ∧ rdZ R 1 = (lpsT op d a b n pc nc nr cS m s (V, W, k)).2.1 ∧ rdZ R 2 = (lpsT op d a b n pc nc nr cS m s (V, W, k)).2.2 := by
 subst h
 have h := rd_chn [a, b, n, pc, nc, nr, cS, m, s, V, W, k]
 have h0 : rdZ (qQq a (qQq b (qQq n (qQq pc (qQq nc (qQq nr (qQq cS (qQq m (qQq s (qQq V (qQq W (qQq k 0)))))))))))) 0 = a := h 0
 have h1 : rdZ (qQq a (qQq b (qQq n (qQq pc (qQq nc (qQq nr (qQq cS (qQq m (qQq s (qQq V (qQq W (qQq k 0)))))))))))) 1 = b := h 1
 have h2 : rdZ (qQq a (qQq b (qQq n (qQq pc (qQq nc (qQq nr (qQq cS (qQq m (qQq s (qQq V (qQq W (qQq k 0)))))))))))) 2 = n := h 2
 have h3 : rdZ (qQq a (qQq b (qQq n (qQq pc (qQq nc (qQq nr (qQq cS (qQq m (qQq s (qQq V (qQq W (qQq k 0)))))))))))) 3 = pc := h 3
 have h4 : rdZ (qQq a (qQq b (qQq n (qQq pc (qQq nc (qQq nr (qQq cS (qQq m (qQq s (qQq V (qQq W (qQq k 0)))))))))))) 4 = nc := h 4
 have h5 : rdZ (qQq a (qQq b (qQq n (qQq pc (qQq nc (qQq nr (qQq cS (qQq m (qQq s (qQq V (qQq W (qQq k 0)))))))))))) 5 = nr := h 5
 have h6 : rdZ (qQq a (qQq b (qQq n (qQq pc (qQq nc (qQq nr (qQq cS (qQq m (qQq s (qQq V (qQq W (qQq k 0)))))))))))) 6 = cS := h 6
 have h7 : rdZ (qQq a (qQq b (qQq n (qQq pc (qQq nc (qQq nr (qQq cS (qQq m (qQq s (qQq V (qQq W (qQq k 0)))))))))))) 7 = m := h 7
 have h8 : rdZ (qQq a (qQq b (qQq n (qQq pc (qQq nc (qQq nr (qQq cS (qQq m (qQq s (qQq V (qQq W (qQq k 0)))))))))))) 8 = s := h 8
 have h9 : rdZ (qQq a (qQq b (qQq n (qQq pc (qQq nc (qQq nr (qQq cS (qQq m (qQq s (qQq V (qQq W (qQq k 0)))))))))))) 9 = V := h 9
 have h10 : rdZ (qQq a (qQq b (qQq n (qQq pc (qQq nc (qQq nr (qQq cS (qQq m (qQq s (qQq V (qQq W (qQq k 0)))))))))))) 10 = W := h 10
 have h11 : rdZ (qQq a (qQq b (qQq n (qQq pc (qQq nc (qQq nr (qQq cS (qQq m (qQq s (qQq V (qQq W (qQq k 0)))))))))))) 11 = k := h 11
 unfold lpsZ
 rw [h0, h1, h2, h3, h4, h5, h6, h7, h8, h9, h10, h11]
 generalize lpsT op d a b n pc nc nr cS m s (V, W, k) = T
 obtain ⟨x, y, z⟩ := T
 have g := rd_chn [x, y, z]
 exact ⟨g 0, g 1, g 2⟩
theorem rch_ev (nc t s V W k : Int) : rchT nc t s (V, W, k) = (if ¬ lrcZ nc t (qQq s (qQq V 0)) = 0 then lrvZ V t s else V, if ¬ lrcZ nc t (qQq s (qQq V 0)) = 0 then hupZ (updZ W k t) k else W, k + lrcZ nc t (qQq s (qQq V 0))) := by
 have hb := lrcZ_bd nc t (qQq s (qQq V 0))
 unfold rchT
 by_cases h : lrcZ nc t (qQq s (qQq V 0)) = 0
 ·rw [if_neg (fun g => g h), if_neg (fun g => g h), if_neg (fun g => g h), h, Int.add_zero]
 ·rw [if_pos h, if_pos h, if_pos h, show lrcZ nc t (qQq s (qQq V 0)) = 1 by omega]
end Go.Eng
end
