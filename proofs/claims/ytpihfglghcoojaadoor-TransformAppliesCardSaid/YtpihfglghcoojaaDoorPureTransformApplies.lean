/-
  Plain laws (numbers and lists) for the statement TransformApplies: no program in sight.
-/
import Derived.Test.YtpihfglghcoojaaDoorAllx22
import Derived.Test.YtpihfglghcoojaaDoorAllx90
import Derived.Test.YtpihfglghcoojaaDoorPureBase
import Derived.Test.YtpihfglghcoojaaDoorPureRect
import Derived.Test.YtpihfglghcoojaaDoorPureAp
namespace Go.Proofs.YtpihfglghcoojaaDoor.Pure
open Go.RowKit Go.Proofs.YtpihfglghcoojaaDoorW.PrintWords Go.Proofs.YtpihfglghcoojaaDoorW.PrintMore Go.Proofs.YtpihfglghcoojaaDoor.All
set_option linter.unusedVariables false
set_option linter.unusedSimpArgs false
theorem TransformApplies (x0 : Int) (x1 : S34) (ok0 : (Lit.int .i64 x0).wf = true) (ok1 : ((Lit.int .i64 x1.f0).wf = true) ∧ ((Lit.int .i64 x1.f1).wf = true) ∧ (((Lit.int .i64 x1.f2.f0).wf = true) ∧ ((Lit.int .i64 x1.f2.f1).wf = true)) ∧ (((Lit.int .i64 x1.f3.f0).wf = true) ∧ ((Lit.int .i64 x1.f3.f1).wf = true) ∧ ((Lit.int .i64 x1.f3.f2).wf = true) ∧ ((Lit.int .i64 x1.f3.f3).wf = true))) :
    ∃ k, compositorlaw07_TransformApplies.f k x0 x1.f0 x1.f1 x1.f2.f0 x1.f2.f1 x1.f3.f0 x1.f3.f1 x1.f3.f2 x1.f3.f3 = some true := by
  refine ⟨8, ?_⟩
  simp only [compositorlaw07_TransformApplies.f, Apply_eq _ _ _ _ _ 8 (by omega), rApply_eq _ _ _ _ _ 8 (by omega), ApplyRect_eq _ _ _ _ _ _ _ 8 (by omega), rApplyRect_eq _ _ _ _ _ _ _ 8 (by omega), example_holds 8 (by omega), Option.bind_some, beq_self_eq_true, Bool.and_self, if_true]

end Go.Proofs.YtpihfglghcoojaaDoor.Pure
