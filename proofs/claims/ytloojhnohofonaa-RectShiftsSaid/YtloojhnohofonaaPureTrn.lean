/-
  Plain laws (numbers and lists) for the statement Trn: no program in sight.
-/
import Derived.Test.YtloojhnohofonaaAllx5
import Derived.Test.YtloojhnohofonaaAllx6
import Derived.Test.YtloojhnohofonaaPureBase
namespace Go.Proofs.Ytloojhnohofonaa.Pure
open Go.RowKit Go.Proofs.YtloojhnohofonaaW.PrintWords Go.Proofs.YtloojhnohofonaaW.PrintMore Go.Proofs.Ytloojhnohofonaa.All
set_option linter.unusedVariables false
set_option linter.unusedSimpArgs false
/-- The moved coordinate. -/
def mvd (n d : Int) : Int := mx (-16384) (mn 16384 (n + d))
theorem moved_eq {n : Int} (d : Int) (h : -16384 ≤ n) (h' : n ≤ 16384) : rect_moved.f n d = some (mvd n d) := by
  unfold rect_moved.f mvd
  have m1 := mx_spec d (-32768)
  have m2 := mn_spec (mx d (-32768)) 32768
  rw [w64 (x := n + mn (mx d (-32768)) 32768) (by omega) (by omega)]
  have m3 := mx_spec (n + mn (mx d (-32768)) 32768) (-16384)
  have m4 := mn_spec (mx (n + mn (mx d (-32768)) 32768) (-16384)) 16384
  have m5 := mn_spec 16384 (n + d)
  have m6 := mx_spec (-16384) (mn 16384 (n + d))
  congr 1
  omega
/-- The moved rectangle. -/
noncomputable def trn (a b c d x y : Int) : Int × Int × Int × Int := if NE a b c d then can (mvd a x) (mvd b y) (mvd c x) (mvd d y) else (0, 0, 0, 0)
theorem trn_eq (a b c d x y : Int) : rect_Translate.f a b c d x y = some (trn a b c d x y) := by
  simp only [rect_Translate.f, empty_eq, Option.bind_some, decide_eq_true_eq, trn]
  by_cases h : NE a b c d
  · have h' := h
    unfold NE at h'
    simp only [h, not_true_eq_false, if_false, if_true]
    rw [moved_eq x (by omega) (by omega), moved_eq y (by omega) (by omega), moved_eq x (by omega) (by omega), moved_eq y (by omega) (by omega)]
    simp only [Option.bind_some, can_eq]
  · simp [h]

end Go.Proofs.Ytloojhnohofonaa.Pure
