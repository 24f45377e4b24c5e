/-
  Plain laws (numbers and lists) for the statement RectNearest: no program in sight.
-/
import Derived.Test.YtloojhnohofonaaAllx0
import Derived.Test.YtloojhnohofonaaAllx24
import Derived.Test.YtloojhnohofonaaAllx25
import Derived.Test.YtloojhnohofonaaAllx3
import Derived.Test.YtloojhnohofonaaAllx90
import Derived.Test.YtloojhnohofonaaPureHas
namespace Go.Proofs.Ytloojhnohofonaa.Pure
open Go.RowKit Go.Proofs.YtloojhnohofonaaW.PrintWords Go.Proofs.YtloojhnohofonaaW.PrintMore Go.Proofs.Ytloojhnohofonaa.All
set_option linter.unusedVariables false
set_option linter.unusedSimpArgs false
theorem dist_eq {a b : Int} (h : -9223372036854775808 ≤ a - b) (h' : a - b ≤ 9223372036854775807) (h2 : -9223372036854775808 ≤ b - a) (h2' : b - a ≤ 9223372036854775807) : compositorlaw04_distance.f a b = some (mx (a - b) (b - a)) := by
  simp only [compositorlaw04_distance.f, w64 h h', w64 h2 h2']
theorem RectNearest (x0 : S23) (x1 : S30) (x2 : S30) (ok0 : ((Lit.int .i64 x0.f0).wf = true) ∧ ((Lit.int .i64 x0.f1).wf = true) ∧ ((Lit.int .i64 x0.f2).wf = true) ∧ ((Lit.int .i64 x0.f3).wf = true)) (ok1 : ((Lit.int .i64 x1.f0).wf = true) ∧ ((Lit.int .i64 x1.f1).wf = true)) (ok2 : ((Lit.int .i64 x2.f0).wf = true) ∧ ((Lit.int .i64 x2.f1).wf = true)) :
    ∃ k, compositorlaw04_RectNearest.f k x0.f0 x0.f1 x0.f2 x0.f3 x1.f0 x1.f1 x2.f0 x2.f1 = some true := by
  obtain ⟨K, hK⟩ := example_holds
  refine ⟨K + 1, ?_⟩
  obtain ⟨a, b, c, d⟩ := x0
  obtain ⟨x, y⟩ := x1
  obtain ⟨p, q⟩ := x2
  simp only [compositorlaw04_RectNearest.f, empty_eq, has_eq, Option.bind_some, decide_eq_true_eq]
  have far : compositorlaw04_RectNearest.j0 (K + 1) x y true a b c d p q = some true := by
    rw [compositorlaw04_RectNearest.j0]
    simp only [if_true, hK K (Nat.le_refl _), Option.bind_some]
  by_cases h : NE a b c d
  · by_cases h' : HAS a b c d p q
    · simp only [h, h', not_true_eq_false, if_false, if_true, far]
      split
      · rfl
      · split
        · rfl
        · split
          · rfl
          · by_cases hy : y > 32768
            · simp only [hy, decide_true, far]
            · simp only [hy, decide_false]
              unfold HAS at h'
              have hn := h
              unfold NE at hn
              rw [compositorlaw04_RectNearest.j0]
              simp only [Bool.false_eq_true, if_false, rect_Clamp.f, empty_eq, Option.bind_some, decide_eq_true_eq, h, not_true_eq_false]
              rw [w64 (x := c - 1) (by omega) (by omega), w64 (x := d - 1) (by omega) (by omega)]
              have m1 := mx_spec x a
              have m2 := mx_spec y b
              have m3 := mn_spec (mx x a) (c - 1)
              have m4 := mn_spec (mx y b) (d - 1)
              generalize mn (mx x a) (c - 1) = u at *
              generalize mn (mx y b) (d - 1) = v at *
              have hu : HAS a b c d u v := ⟨h, by omega⟩
              rw [has_eq, dist_eq (by omega) (by omega) (by omega) (by omega), dist_eq (by omega) (by omega) (by omega) (by omega), dist_eq (by omega) (by omega) (by omega) (by omega), dist_eq (by omega) (by omega) (by omega) (by omega)]
              have n1 := mx_spec (u - x) (x - u)
              have n2 := mx_spec (p - x) (x - p)
              have n3 := mx_spec (v - y) (y - v)
              have n4 := mx_spec (q - y) (y - q)
              simp only [Option.bind_some, hu, decide_true, if_true, hK K (Nat.le_refl _)]
              rw [if_pos (by omega), if_pos (by omega)]
    · simp [h, h', far]
  · simp [h, far]

end Go.Proofs.Ytloojhnohofonaa.Pure
