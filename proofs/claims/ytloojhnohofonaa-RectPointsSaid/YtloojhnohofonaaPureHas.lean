/-
  Plain laws (numbers and lists) for the statement Has: no program in sight.
-/
import Derived.Test.YtloojhnohofonaaAllx15
import Derived.Test.YtloojhnohofonaaPureBase
namespace Go.Proofs.Ytloojhnohofonaa.Pure
open Go.RowKit Go.Proofs.YtloojhnohofonaaW.PrintWords Go.Proofs.YtloojhnohofonaaW.PrintMore Go.Proofs.Ytloojhnohofonaa.All
set_option linter.unusedVariables false
set_option linter.unusedSimpArgs false
theorem has_eq (a b c d x y : Int) : rect_Contains.f a b c d x y = some (decide (HAS a b c d x y)) := by
  simp only [rect_Contains.f, can_eq, Option.bind_some, can]
  by_cases h : NE a b c d
  · simp only [h, if_true, HAS, true_and]
    repeat' split
    all_goals (refine congrArg some (Bool.eq_iff_iff.mpr ?_); simp only [decide_eq_true_eq, Bool.false_eq_true, iff_true, iff_false, false_iff, true_iff] at *; (try simp only [VA, NE, HAS, WIN] at *); first | omega | (constructor <;> (intro _; omega)) | (intro _; omega) | skip)
  · simp only [h, if_false, HAS, false_and]
    repeat' split
    all_goals (refine congrArg some (Bool.eq_iff_iff.mpr ?_); simp only [decide_eq_true_eq, Bool.false_eq_true, iff_true, iff_false, false_iff, true_iff] at *; (try simp only [VA, NE, HAS, WIN] at *); first | omega | (constructor <;> (intro _; omega)) | (intro _; omega) | skip)
theorem rhas_eq (a b c d x y : Int) : compositorref04_Contains.f a b c d x y = some (decide (HAS a b c d x y)) := by
  simp only [compositorref04_Contains.f, rempty_eq, Option.bind_some, decide_eq_true_eq]
  by_cases h : NE a b c d
  · simp only [h, not_true_eq_false, if_false, HAS, true_and]
    repeat' split
    all_goals (refine congrArg some (Bool.eq_iff_iff.mpr ?_); simp only [decide_eq_true_eq, Bool.false_eq_true, iff_true, iff_false, false_iff, true_iff] at *; (try simp only [VA, NE, HAS, WIN] at *); first | omega | (constructor <;> (intro _; omega)) | (intro _; omega) | skip)
  · simp [h, HAS]
theorem rarea_eq (a b c d : Int) : compositorref04_Area.f a b c d = some (ar a b c d) := by
  simp only [compositorref04_Area.f, rcan_eq, Option.bind_some, can, ar]
  split
  · rename_i h
    have r := ar_range h
    unfold NE at h
    simp only
    rw [w64 (x := c - a) (by omega) (by omega), w64 (x := d - b) (by omega) (by omega), w64 (by omega) (by omega)]
  · decide +kernel

end Go.Proofs.Ytloojhnohofonaa.Pure
