/-
  Plain laws (numbers and lists) for the statement TransformGroup: no program in sight.
-/
import Derived.Test.YtpihfglghcoojaaDoorAllx24
import Derived.Test.YtpihfglghcoojaaDoorAllx4
import Derived.Test.YtpihfglghcoojaaDoorPureBase
namespace Go.Proofs.YtpihfglghcoojaaDoor.Pure
open Go.RowKit Go.Proofs.YtpihfglghcoojaaDoorW.PrintWords Go.Proofs.YtpihfglghcoojaaDoorW.PrintMore Go.Proofs.YtpihfglghcoojaaDoor.All
set_option linter.unusedVariables false
set_option linter.unusedSimpArgs false
theorem cmp_lt {x y : Nat} (hx : x < 8) (hy : y < 8) : cmp x y < 8 := (cmp_nn x hx y hy).2
theorem cl_cmp (a b : Int) : cl ((cmp (cl a) (cl b) : Nat) : Int) = cmp (cl a) (cl b) := cl_idem (cmp_lt (cl_lt a) (cl_lt b))
theorem cl_inv (a : Int) : cl ((inv (cl a) : Nat) : Int) = inv (cl a) := cl_idem (inv_lt _ (cl_lt a))
theorem cmp_assoc : ∀ x : Fin 8, ∀ y : Fin 8, ∀ z : Fin 8, cmp (cmp x.val y.val) z.val = cmp x.val (cmp y.val z.val) := by decide +kernel
theorem cmp_facts : ∀ x : Fin 8, cmp x.val 0 = x.val ∧ cmp 0 x.val = x.val ∧ cmp x.val (inv x.val) = 0 ∧ cmp (inv x.val) x.val = 0 := by decide +kernel
theorem inv_cmp : ∀ x : Fin 8, ∀ y : Fin 8, inv (cmp x.val y.val) = cmp (inv y.val) (inv x.val) := by decide +kernel
theorem cl0 : cl 0 = 0 := by decide
theorem TransformGroup (x0 : Int) (x1 : Int) (x2 : Int) (ok0 : (Lit.int .i64 x0).wf = true) (ok1 : (Lit.int .i64 x1).wf = true) (ok2 : (Lit.int .i64 x2).wf = true) :
    ∃ k, compositorlaw07_TransformGroup.f k x0 x1 x2 = some true := by
  refine ⟨9, ?_⟩
  have hx := cmp_facts ⟨cl x0, cl_lt x0⟩
  have hass := cmp_assoc ⟨cl x0, cl_lt x0⟩ ⟨cl x1, cl_lt x1⟩ ⟨cl x2, cl_lt x2⟩
  have hic := inv_cmp ⟨cl x0, cl_lt x0⟩ ⟨cl x1, cl_lt x1⟩
  simp only at hx hass hic
  obtain ⟨h1, h2, h3, h4⟩ := hx
  have hv : transform_Valid.f ((cmp (cl x0) (cl x1) : Nat) : Int) = some true := by
    rw [valid_eq']
    have := cmp_lt (cl_lt x0) (cl_lt x1)
    exact congrArg some (decide_eq_true (by omega))
  simp only [compositorlaw07_TransformGroup.f, compositorlaw07_TransformGroup.j0, compose_eq, invert_eq, lclean_eq, Option.bind_some, cl_cmp, cl_inv, cl0, hv, hass, h1, h2, h3, h4, hic, if_true, bne_self_eq_false, Bool.false_eq_true, if_false, Int.ofNat_zero, Int.natCast_zero, example_holds 8 (by omega)]

end Go.Proofs.YtpihfglghcoojaaDoor.Pure
