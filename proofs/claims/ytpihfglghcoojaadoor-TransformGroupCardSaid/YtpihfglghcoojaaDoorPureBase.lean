/-
  Plain laws (numbers and lists) for the statement Base: no program in sight.
-/
import Derived.Test.YtpihfglghcoojaaDoorAllx15
import Derived.Test.YtpihfglghcoojaaDoorAllx23
import Derived.Test.YtpihfglghcoojaaDoorAllx4
import Derived.Test.YtpihfglghcoojaaDoorAllx5
import Derived.Test.YtpihfglghcoojaaDoorAllx8
namespace Go.Proofs.YtpihfglghcoojaaDoor.Pure
open Go.RowKit Go.Proofs.YtpihfglghcoojaaDoorW.PrintWords Go.Proofs.YtpihfglghcoojaaDoorW.PrintMore Go.Proofs.YtpihfglghcoojaaDoor.All
set_option linter.unusedVariables false
set_option linter.unusedSimpArgs false
theorem i64 {x : Int} (h : (Lit.int .i64 x).wf = true) : -9223372036854775808 ≤ x ∧ x ≤ 9223372036854775807 := by
  simpa [Lit.wf, IntKind.min, IntKind.max, IntKind.signed, IntKind.bits] using h
theorem w64 {x : Int} (h : -9223372036854775808 ≤ x) (h' : x ≤ 9223372036854775807) : wrap64 x = x := by unfold wrap64; omega
/-- What holds with some fuel holds with more. -/
theorem fuel {α : Type} {f : Nat → Option α} (hm : ∀ k r, f k = some r → f (k + 1) = some r) {K : Nat} {r : α} (h : f K = some r) : ∀ k, K ≤ k → f k = some r := by
  intro k hk
  obtain ⟨j, rfl⟩ : ∃ j, k = K + j := ⟨k - K, by omega⟩
  clear hk
  induction j with
  | zero => exact h
  | succ j ih => exact hm _ _ ih
theorem example_holds : ∀ k, 8 ≤ k → compositorlaw07_exampleHolds.f k = some true :=
  fuel (f := fun k => compositorlaw07_exampleHolds.f k) (fun k r h => compositorlaw07_exampleHolds.mono k r h) (by decide +kernel)
/-- The transform that a number stands for. -/
def cl (a : Int) : Nat := if 0 ≤ a ∧ a ≤ 7 then a.toNat else 0
theorem cl_lt (a : Int) : cl a < 8 := by unfold cl; split <;> omega
theorem cl_idem {n : Nat} (h : n < 8) : cl (n : Int) = n := by unfold cl; rw [if_pos ⟨by omega, by omega⟩]; simp
theorem valid_eq' (a : Int) : transform_Valid.f a = some (decide (0 ≤ a ∧ a ≤ 7)) := by
  unfold transform_Valid.f
  split <;> (refine congrArg some (Bool.eq_iff_iff.mpr ?_); simp only [decide_eq_true_eq, Bool.false_eq_true, false_iff]; omega)
theorem rvalid_eq' (a : Int) : compositorref07_Valid.f a = some (decide (0 ≤ a ∧ a ≤ 7)) := by
  unfold compositorref07_Valid.f
  split <;> (refine congrArg some (Bool.eq_iff_iff.mpr ?_); simp only [decide_eq_true_eq, Bool.false_eq_true, false_iff]; omega)
theorem normal_eq (a : Int) : transform_normal.f a = some (cl a : Int) := by
  simp only [transform_normal.f, valid_eq', Option.bind_some, cl, decide_eq_true_eq]
  split
  · rename_i h; rw [Int.toNat_of_nonneg h.1]
  · rfl
theorem clean_eq (a : Int) : compositorref07_clean.f a = some (cl a : Int) := by
  simp only [compositorref07_clean.f, rvalid_eq', Option.bind_some, cl, decide_eq_true_eq]
  split
  · rename_i h; rw [Int.toNat_of_nonneg h.1]
  · rfl
theorem lclean_eq (a : Int) : compositorlaw07_clean.f a = some (cl a : Int) := by
  simp only [compositorlaw07_clean.f, rvalid_eq', Option.bind_some, cl, decide_eq_true_eq]
  split
  · rename_i h; rw [Int.toNat_of_nonneg h.1]
  · rfl
/-- One transform behind another. -/
def cmp (x y : Nat) : Nat := (Go.Proofs.YtpihfglghcoojaaDoorHand.prods.getD (8 * x + y) 0).toNat
theorem cmp_nn : ∀ x, x < 8 → ∀ y, y < 8 → Go.Proofs.YtpihfglghcoojaaDoorHand.prods.getD (8 * x + y) 0 = (cmp x y : Int) ∧ cmp x y < 8 := by decide
theorem compose_eq (a b : Int) : transform_Compose.f a b = some (cmp (cl a) (cl b) : Int) := by
  simp only [transform_Compose.f, normal_eq, Option.bind_some]
  have e : (8 * (cl a : Int) + (cl b : Int)).toNat = 8 * cl a + cl b := by omega
  rw [e, (cmp_nn _ (cl_lt a) _ (cl_lt b)).1]
def inv (x : Nat) : Nat := transform_Invert.inv x
theorem inv_lt : ∀ x, x < 8 → inv x < 8 := by decide
theorem invert_eq (a : Int) : transform_Invert.f a = some (inv (cl a) : Int) := by
  simp only [transform_Invert.f, normal_eq, Option.bind_some, Int.toNat_natCast, inv]
/-- The size of the transformed image. -/
def odd (x : Nat) : Prop := x % 2 = 1
instance (x : Nat) : Decidable (odd x) := inferInstanceAs (Decidable (x % 2 = 1))
theorem tmod_odd (x : Nat) : (Int.tmod (x : Int) 2 = 1) ↔ odd x := by
  unfold odd
  rw [Int.tmod_eq_emod_of_nonneg (by omega)]
  omega
theorem size_eq (a w h : Int) : transform_Size.f a w h = some (if odd (cl a) then (h, w) else (w, h)) := by
  simp only [transform_Size.f, normal_eq, Option.bind_some, tmod_odd]
  split <;> rfl
theorem rsize_eq (a w h : Int) : compositorref07_Size.f a w h = some (if odd (cl a) then (h, w) else (w, h)) := by
  simp only [compositorref07_Size.f, clean_eq, Option.bind_some, tmod_odd]
  split <;> rfl

end Go.Proofs.YtpihfglghcoojaaDoor.Pure
