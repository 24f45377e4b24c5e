/-
  Plain laws (numbers and lists) for the statement TransformTells: no program in sight.
-/
import Derived.Test.YtpihfglghcoojaaDoorAllx16
import Derived.Test.YtpihfglghcoojaaDoorAllx7
import Derived.Test.YtpihfglghcoojaaDoorAllx8
import Derived.Test.YtpihfglghcoojaaDoorAllx90
import Derived.Test.YtpihfglghcoojaaDoorPureBase
namespace Go.Proofs.YtpihfglghcoojaaDoor.Pure
open Go.RowKit Go.Proofs.YtpihfglghcoojaaDoorW.PrintWords Go.Proofs.YtpihfglghcoojaaDoorW.PrintMore Go.Proofs.YtpihfglghcoojaaDoor.All
set_option linter.unusedVariables false
set_option linter.unusedSimpArgs false
theorem rl (k : Nat) : (∀ a b w h t, compositorref07_Compose.l0 k a b w h t = compositorref07_Compose.l0 k (cl a) (cl b) w h t) ∧ (∀ a b w h t s x, compositorref07_Compose.l1 k a b w h t s x = compositorref07_Compose.l1 k (cl a) (cl b) w h t s x) ∧ (∀ a b w h t s x y, compositorref07_Compose.l2 k a b w h t s x y = compositorref07_Compose.l2 k (cl a) (cl b) w h t s x y) := by
  induction k with
  | zero => exact ⟨fun _ _ _ _ _ => rfl, fun _ _ _ _ _ _ _ => rfl, fun _ _ _ _ _ _ _ _ => rfl⟩
  | succ k ih =>
    obtain ⟨i0, i1, i2⟩ := ih
    refine ⟨fun a b w h t => ?_, fun a b w h t s x => ?_, fun a b w h t s x y => ?_⟩
    · simp only [compositorref07_Compose.l0, clean_eq, Option.bind_some, cl_idem (cl_lt _)]
      rw [i1 a b]
    · simp only [compositorref07_Compose.l1]
      rw [i2 a b, i0 a b]
    · simp only [compositorref07_Compose.l2, clean_eq, Option.bind_some, cl_idem (cl_lt _)]
      simp only [i2 a b, i1 a b]
theorem rcompose_cl (k : Nat) (a b : Int) : compositorref07_Compose.f k a b = compositorref07_Compose.f k (cl a) (cl b) := by
  simp only [compositorref07_Compose.f, rsize_eq, Option.bind_some, cl_idem (cl_lt _)]
  exact (rl k).1 a b _ _ _
theorem rcompose_dec : ∀ x : Fin 8, ∀ y : Fin 8, compositorref07_Compose.f 120 ((x.val : Nat) : Int) ((y.val : Nat) : Int) = some (cmp x.val y.val : Int) := by decide +kernel
theorem rcompose_eq (a b : Int) : ∀ k, 120 ≤ k → compositorref07_Compose.f k a b = some (cmp (cl a) (cl b) : Int) :=
  fuel (f := fun k => compositorref07_Compose.f k a b) (fun k r h => compositorref07_Compose.mono a b k r h) (by
    show compositorref07_Compose.f 120 a b = _
    rw [rcompose_cl]
    exact rcompose_dec ⟨cl a, cl_lt a⟩ ⟨cl b, cl_lt b⟩)
theorem rinv_cl (k : Nat) : ∀ a u, compositorref07_Invert.l0 k a u = compositorref07_Invert.l0 k (cl a) u := by
  induction k with
  | zero => exact fun _ _ => rfl
  | succ k ih =>
    intro a u
    simp only [compositorref07_Invert.l0]
    rw [rcompose_cl k a u, rcompose_cl k (cl a) u, cl_idem (cl_lt _), ih a]
theorem rinv_dec : ∀ x : Fin 8, compositorref07_Invert.f 130 ((x.val : Nat) : Int) = some (inv x.val : Int) := by decide +kernel
theorem rinvert_eq (a : Int) : ∀ k, 130 ≤ k → compositorref07_Invert.f k a = some (inv (cl a) : Int) :=
  fuel (f := fun k => compositorref07_Invert.f k a) (fun k r h => compositorref07_Invert.mono a k r h) (by
    show compositorref07_Invert.f 130 a = _
    unfold compositorref07_Invert.f
    rw [rinv_cl]
    exact rinv_dec ⟨cl a, cl_lt a⟩)
theorem TransformTells (x0 : Int) (x1 : Int) (x2 : S23) (ok0 : (Lit.int .i64 x0).wf = true) (ok1 : (Lit.int .i64 x1).wf = true) (ok2 : ((Lit.int .i64 x2.f0).wf = true) ∧ ((Lit.int .i64 x2.f1).wf = true)) :
    ∃ k, compositorlaw07_TransformTells.f k x0 x1 x2.f0 x2.f1 = some true := by
  refine ⟨130, ?_⟩
  simp only [compositorlaw07_TransformTells.f, size_eq, rsize_eq, valid_eq', rvalid_eq', compose_eq, rcompose_eq _ _ 130 (by omega), invert_eq, rinvert_eq _ 130 (by omega), example_holds 130 (by omega), Option.bind_some, beq_self_eq_true, if_true]

end Go.Proofs.YtpihfglghcoojaaDoor.Pure
