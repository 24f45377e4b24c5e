/-
  Plain laws (numbers and lists) for the statement RectCombines: no program in sight.
-/
import Derived.Test.YtloojhnohofonaaAllx0
import Derived.Test.YtloojhnohofonaaAllx22
import Derived.Test.YtloojhnohofonaaPureWin
import Derived.Test.YtloojhnohofonaaPureRef
import Derived.Test.YtloojhnohofonaaPureCutRef
namespace Go.Proofs.Ytloojhnohofonaa.Pure
open Go.RowKit Go.Proofs.YtloojhnohofonaaW.PrintWords Go.Proofs.YtloojhnohofonaaW.PrintMore Go.Proofs.Ytloojhnohofonaa.All
set_option linter.unusedVariables false
set_option linter.unusedSimpArgs false
theorem RectCombines (x0 : S23) (x1 : S23) (ok0 : ((Lit.int .i64 x0.f0).wf = true) ∧ ((Lit.int .i64 x0.f1).wf = true) ∧ ((Lit.int .i64 x0.f2).wf = true) ∧ ((Lit.int .i64 x0.f3).wf = true)) (ok1 : ((Lit.int .i64 x1.f0).wf = true) ∧ ((Lit.int .i64 x1.f1).wf = true) ∧ ((Lit.int .i64 x1.f2).wf = true) ∧ ((Lit.int .i64 x1.f3).wf = true)) :
    ∃ k, compositorlaw04_RectCombines.f k x0.f0 x0.f1 x0.f2 x0.f3 x1.f0 x1.f1 x1.f2 x1.f3 = some true := by
  obtain ⟨K, hK⟩ := example_holds
  refine ⟨K + 5, ?_⟩
  have hl := sub_le x0.f0 x0.f1 x0.f2 x0.f3 x1.f0 x1.f1 x1.f2 x1.f3
  simp only [compositorlaw04_RectCombines.f, win_eq, rwin_eq, isc_eq, risc_eq, uni_eq, runi_eq, sub_eq, rsub_eq _ _ _ _ _ _ _ _ (K + 5) (by omega), hK (K + 5) (by omega), Option.bind_some, beq_self_eq_true, Bool.and_self, if_true]
  rw [same_eq _ (K + 5) (by omega) (by omega)]
  simp only [Option.bind_some, if_true]

end Go.Proofs.Ytloojhnohofonaa.Pure
