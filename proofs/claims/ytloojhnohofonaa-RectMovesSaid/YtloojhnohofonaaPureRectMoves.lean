/-
  Plain laws (numbers and lists) for the statement RectMoves: no program in sight.
-/
import Derived.Test.YtloojhnohofonaaAllx0
import Derived.Test.YtloojhnohofonaaAllx14
import Derived.Test.YtloojhnohofonaaAllx3
import Derived.Test.YtloojhnohofonaaAllx5
import Derived.Test.YtloojhnohofonaaAllx6
import Derived.Test.YtloojhnohofonaaAllx7
import Derived.Test.YtloojhnohofonaaAllx8
import Derived.Test.YtloojhnohofonaaPureBase
namespace Go.Proofs.Ytloojhnohofonaa.Pure
open Go.RowKit Go.Proofs.YtloojhnohofonaaW.PrintWords Go.Proofs.YtloojhnohofonaaW.PrintMore Go.Proofs.Ytloojhnohofonaa.All
set_option linter.unusedVariables false
set_option linter.unusedSimpArgs false
theorem clamp_eq {a b c d : Int} (x y : Int) : rect_Clamp.f a b c d x y = compositorref04_Clamp.f a b c d x y := by
  simp only [rect_Clamp.f, compositorref04_Clamp.f, empty_eq, rempty_eq, Option.bind_some, decide_eq_true_eq]
  by_cases h : NE a b c d
  · simp only [h, not_true_eq_false, if_false]
    unfold NE at h
    rw [w64 (x := c - 1) (by omega) (by omega), w64 (x := d - 1) (by omega) (by omega)]
    have m1 := mx_spec x a
    have m2 := mx_spec y b
    have m3 := mn_spec (mx x a) (c - 1)
    have m4 := mn_spec (mx y b) (d - 1)
    have m5 := mn_spec (c - 1) x
    have m6 := mn_spec (d - 1) y
    have m7 := mx_spec a (mn (c - 1) x)
    have m8 := mx_spec b (mn (d - 1) y)
    have e1 : mn (mx x a) (c - 1) = mx a (mn (c - 1) x) := by omega
    have e2 : mn (mx y b) (d - 1) = mx b (mn (d - 1) y) := by omega
    rw [e1, e2]
  · simp [h]
/-- The moved coordinate. -/
def mvd (n d : Int) : Int := mx (-16384) (mn 16384 (n + d))
theorem moved_eq {n : Int} (d : Int) (h : -16384 ≤ n) (h' : n ≤ 16384) : rect_moved.f n d = some (mvd n d) := by
  unfold rect_moved.f mvd
  have m1 := mx_spec d (-32768)
  have m2 := mn_spec (mx d (-32768)) 32768
  rw [w64 (x := n + mn (mx d (-32768)) 32768) (by omega) (by omega)]
  have m3 := mx_spec (n + mn (mx d (-32768)) 32768) (-16384)
  have m4 := mn_spec (mx (n + mn (mx d (-32768)) 32768) (-16384)) 16384
  have m5 := mn_spec 16384 (n + d)
  have m6 := mx_spec (-16384) (mn 16384 (n + d))
  congr 1
  omega
theorem rmoved_eq {n : Int} (d : Int) (h : -16384 ≤ n) (h' : n ≤ 16384) : compositorref04_moved.f n d = some (mvd n d) := by
  unfold compositorref04_moved.f mvd
  have m5 := mn_spec 16384 (n + d)
  have m6 := mx_spec (-16384) (mn 16384 (n + d))
  split
  · congr 1; omega
  · split
    · congr 1; omega
    · rw [w64 (x := n + d) (by omega) (by omega)]
/-- The moved rectangle. -/
noncomputable def trn (a b c d x y : Int) : Int × Int × Int × Int := if NE a b c d then can (mvd a x) (mvd b y) (mvd c x) (mvd d y) else (0, 0, 0, 0)
theorem trn_eq (a b c d x y : Int) : rect_Translate.f a b c d x y = some (trn a b c d x y) := by
  simp only [rect_Translate.f, empty_eq, Option.bind_some, decide_eq_true_eq, trn]
  by_cases h : NE a b c d
  · have h' := h
    unfold NE at h'
    simp only [h, not_true_eq_false, if_false, if_true]
    rw [moved_eq x (by omega) (by omega), moved_eq y (by omega) (by omega), moved_eq x (by omega) (by omega), moved_eq y (by omega) (by omega)]
    simp only [Option.bind_some, can_eq]
  · simp [h]
theorem rtrn_eq (a b c d x y : Int) : compositorref04_Translate.f a b c d x y = some (trn a b c d x y) := by
  simp only [compositorref04_Translate.f, rempty_eq, Option.bind_some, decide_eq_true_eq, trn]
  by_cases h : NE a b c d
  · have h' := h
    unfold NE at h'
    simp only [h, not_true_eq_false, if_false, if_true]
    rw [rmoved_eq x (by omega) (by omega), rmoved_eq y (by omega) (by omega), rmoved_eq x (by omega) (by omega), rmoved_eq y (by omega) (by omega)]
    simp only [Option.bind_some, rcan_eq]
  · simp [h]
theorem clamp_some (a b c d x y : Int) : ∃ r, compositorref04_Clamp.f a b c d x y = some r := by
  simp only [compositorref04_Clamp.f, rempty_eq, Option.bind_some, decide_eq_true_eq]
  split <;> exact ⟨_, rfl⟩
theorem RectMoves (x0 : S23) (x1 : Int) (x2 : Int) (ok0 : ((Lit.int .i64 x0.f0).wf = true) ∧ ((Lit.int .i64 x0.f1).wf = true) ∧ ((Lit.int .i64 x0.f2).wf = true) ∧ ((Lit.int .i64 x0.f3).wf = true)) (ok1 : (Lit.int .i64 x1).wf = true) (ok2 : (Lit.int .i64 x2).wf = true) :
    ∃ k, compositorlaw04_RectMoves.f k x0.f0 x0.f1 x0.f2 x0.f3 x1 x2 = some true := by
  obtain ⟨K, hK⟩ := example_holds
  refine ⟨K, ?_⟩
  obtain ⟨r, hr⟩ := clamp_some x0.f0 x0.f1 x0.f2 x0.f3 x1 x2
  simp only [compositorlaw04_RectMoves.f, clamp_eq, hr, trn_eq, rtrn_eq, hK K (Nat.le_refl _), Option.bind_some, beq_self_eq_true, Bool.and_self, if_true]

end Go.Proofs.Ytloojhnohofonaa.Pure
