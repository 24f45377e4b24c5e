/-
  Plain laws (numbers and lists) for the statement Win: no program in sight.
-/
import Derived.Test.YtloojhnohofonaaAllx18
import Derived.Test.YtloojhnohofonaaPureBase
namespace Go.Proofs.Ytloojhnohofonaa.Pure
open Go.RowKit Go.Proofs.YtloojhnohofonaaW.PrintWords Go.Proofs.YtloojhnohofonaaW.PrintMore Go.Proofs.Ytloojhnohofonaa.All
set_option linter.unusedVariables false
set_option linter.unusedSimpArgs false
theorem win_eq (a b c d a' b' c' d' : Int) : rect_Within.f a b c d a' b' c' d' = some (decide (WIN a b c d a' b' c' d')) := by
  simp only [rect_Within.f, can_eq, isc_eq, Option.bind_some, WIN]
  congr 1
  by_cases h : NE a b c d
  · have e : can a b c d = (a, b, c, d) := if_pos h
    simp only [e, WIN, h, true_implies]
    by_cases h' : NE a' b' c' d'
    · have e' : isc a b c d a' b' c' d' = can (mx a a') (mx b b') (mn c c') (mn d d') := if_pos ⟨h, h'⟩
      simp only [e', h', true_and, can]
      have m1 := mx_spec a a'
      have m2 := mx_spec b b'
      have m3 := mn_spec c c'
      have m4 := mn_spec d d'
      rw [Bool.eq_iff_iff]
      by_cases hn : NE (mx a a') (mx b b') (mn c c') (mn d d')
      · simp only [hn, if_true, Bool.and_eq_true, beq_iff_eq, decide_eq_true_eq]
        omega
      · simp only [hn, if_false, Bool.and_eq_true, beq_iff_eq, decide_eq_true_eq]
        unfold NE at *
        omega
    · have e' : isc a b c d a' b' c' d' = (0, 0, 0, 0) := if_neg (fun k => h' k.2)
      simp only [e', WIN, h, h', true_implies, false_and, decide_false]
      unfold NE at h
      rw [Bool.eq_false_iff]
      simp only [ne_eq, Bool.and_eq_true, beq_iff_eq]
      omega
  · have e : can a b c d = (0, 0, 0, 0) := if_neg h
    have e' : isc 0 0 0 0 a' b' c' d' = (0, 0, 0, 0) := if_neg (fun k => not_ne0 k.1)
    simp [e, e', h, WIN]

end Go.Proofs.Ytloojhnohofonaa.Pure
