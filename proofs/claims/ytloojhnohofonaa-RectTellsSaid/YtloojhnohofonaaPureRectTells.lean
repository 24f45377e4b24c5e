/-
  Plain laws (numbers and lists) for the statement RectTells: no program in sight.
-/
import Derived.Test.YtloojhnohofonaaAllx0
import Derived.Test.YtloojhnohofonaaAllx16
import Derived.Test.YtloojhnohofonaaPureHas
namespace Go.Proofs.Ytloojhnohofonaa.Pure
open Go.RowKit Go.Proofs.YtloojhnohofonaaW.PrintWords Go.Proofs.YtloojhnohofonaaW.PrintMore Go.Proofs.Ytloojhnohofonaa.All
set_option linter.unusedVariables false
set_option linter.unusedSimpArgs false
theorem RectTells (x0 : S23) (x1 : Int) (x2 : Int) (ok0 : ((Lit.int .i64 x0.f0).wf = true) ∧ ((Lit.int .i64 x0.f1).wf = true) ∧ ((Lit.int .i64 x0.f2).wf = true) ∧ ((Lit.int .i64 x0.f3).wf = true)) (ok1 : (Lit.int .i64 x1).wf = true) (ok2 : (Lit.int .i64 x2).wf = true) :
    ∃ k, compositorlaw04_RectTells.f k x0.f0 x0.f1 x0.f2 x0.f3 x1 x2 = some true := by
  obtain ⟨K, hK⟩ := example_holds
  refine ⟨K, ?_⟩
  simp only [compositorlaw04_RectTells.f, valid_eq, rvalid_eq, empty_eq, rempty_eq, can_eq, rcan_eq, area_eq, rarea_eq, has_eq, rhas_eq, hK K (Nat.le_refl _), Option.bind_some, beq_self_eq_true, Bool.and_self, if_true]

end Go.Proofs.Ytloojhnohofonaa.Pure
