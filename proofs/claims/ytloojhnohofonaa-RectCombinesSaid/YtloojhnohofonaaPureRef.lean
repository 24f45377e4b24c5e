/-
  Plain laws (numbers and lists) for the statement Ref: no program in sight.
-/
import Derived.Test.YtloojhnohofonaaAllx18
import Derived.Test.YtloojhnohofonaaAllx19
import Derived.Test.YtloojhnohofonaaAllx20
import Derived.Test.YtloojhnohofonaaPureBase
namespace Go.Proofs.Ytloojhnohofonaa.Pure
open Go.RowKit Go.Proofs.YtloojhnohofonaaW.PrintWords Go.Proofs.YtloojhnohofonaaW.PrintMore Go.Proofs.Ytloojhnohofonaa.All
set_option linter.unusedVariables false
set_option linter.unusedSimpArgs false
theorem risc_eq (a b c d a' b' c' d' : Int) : compositorref04_Intersect.f a b c d a' b' c' d' = some (isc a b c d a' b' c' d') := by
  simp only [compositorref04_Intersect.f, rempty_eq, rcan_eq, Option.bind_some, decide_eq_true_eq, isc]
  by_cases h : NE a b c d <;> by_cases h' : NE a' b' c' d' <;> simp [h, h']
theorem runi_eq (a b c d a' b' c' d' : Int) : compositorref04_Union.f a b c d a' b' c' d' = some (uni a b c d a' b' c' d') := by
  simp only [compositorref04_Union.f, rempty_eq, rcan_eq, Option.bind_some, decide_eq_true_eq, uni]
  by_cases h : NE a b c d <;> by_cases h' : NE a' b' c' d' <;> simp [h, h']
theorem rwin_eq (a b c d a' b' c' d' : Int) : compositorref04_Within.f a b c d a' b' c' d' = some (decide (WIN a b c d a' b' c' d')) := by
  simp only [compositorref04_Within.f, rempty_eq, Option.bind_some, decide_eq_true_eq]
  by_cases h : NE a b c d
  · by_cases h' : NE a' b' c' d'
    · simp only [h, h', not_true_eq_false, if_false, WIN, true_and, true_implies]
      repeat' split
      all_goals (refine congrArg some (Bool.eq_iff_iff.mpr ?_); simp only [decide_eq_true_eq, Bool.false_eq_true, iff_true, iff_false, false_iff, true_iff] at *; (try simp only [VA, NE, HAS, WIN] at *); first | omega | (constructor <;> (intro _; omega)) | (intro _; omega) | skip)
    · simp [h, h', WIN]
  · simp [h, WIN]

end Go.Proofs.Ytloojhnohofonaa.Pure
