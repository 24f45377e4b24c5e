/-
  Plain laws (numbers and lists) for the statement Base: no program in sight.
-/
import Derived.Test.YtloojhnohofonaaAllx11
import Derived.Test.YtloojhnohofonaaAllx13
import Derived.Test.YtloojhnohofonaaAllx2
import Derived.Test.YtloojhnohofonaaAllx3
import Derived.Test.YtloojhnohofonaaAllx4
import Derived.Test.YtloojhnohofonaaAllx5
import Derived.Test.YtloojhnohofonaaAllx7
import Derived.Test.YtloojhnohofonaaAllx9
namespace Go.Proofs.Ytloojhnohofonaa.Pure
open Go.RowKit Go.Proofs.YtloojhnohofonaaW.PrintWords Go.Proofs.YtloojhnohofonaaW.PrintMore Go.Proofs.Ytloojhnohofonaa.All
set_option linter.unusedVariables false
set_option linter.unusedSimpArgs false
set_option linter.unusedSimpArgs false
theorem i64 {x : Int} (h : (Lit.int .i64 x).wf = true) : -9223372036854775808 ≤ x ∧ x ≤ 9223372036854775807 := by
  simpa [Lit.wf, IntKind.min, IntKind.max, IntKind.signed, IntKind.bits] using h
theorem w64 {x : Int} (h : -9223372036854775808 ≤ x) (h' : x ≤ 9223372036854775807) : wrap64 x = x := by unfold wrap64; omega
theorem example_holds : ∃ K, ∀ k, K ≤ k → compositorlaw04_exampleHolds.f k = some true :=
  ⟨8, fun k hk => by
    obtain ⟨j, rfl⟩ : ∃ j, k = j + 8 := ⟨k - 8, by omega⟩
    clear hk
    induction j with
    | zero => decide +kernel
    | succ j ih => exact compositorlaw04_exampleHolds.mono _ _ ih⟩
theorem mx_spec (a b : Int) : a ≤ mx a b ∧ b ≤ mx a b ∧ (mx a b = a ∨ mx a b = b) := by unfold mx; split <;> omega
theorem mn_spec (a b : Int) : mn a b ≤ a ∧ mn a b ≤ b ∧ (mn a b = a ∨ mn a b = b) := by unfold mn; split <;> omega
/-- A rectangle with a pixel. -/
def NE (a b c d : Int) : Prop := -16384 ≤ a ∧ a ≤ 16384 ∧ -16384 ≤ b ∧ b ≤ 16384 ∧ -16384 ≤ c ∧ c ≤ 16384 ∧ -16384 ≤ d ∧ d ≤ 16384 ∧ a < c ∧ b < d
noncomputable instance (a b c d : Int) : Decidable (NE a b c d) := Classical.propDecidable _
def HAS (a b c d x y : Int) : Prop := NE a b c d ∧ a ≤ x ∧ x < c ∧ b ≤ y ∧ y < d
noncomputable instance (a b c d x y : Int) : Decidable (HAS a b c d x y) := Classical.propDecidable _
def WIN (a b c d a' b' c' d' : Int) : Prop := NE a b c d → NE a' b' c' d' ∧ a' ≤ a ∧ b' ≤ b ∧ c ≤ c' ∧ d ≤ d'
noncomputable instance (a b c d a' b' c' d' : Int) : Decidable (WIN a b c d a' b' c' d') := Classical.propDecidable _
def VA (a b c d : Int) : Prop := -16384 ≤ a ∧ a ≤ 16384 ∧ -16384 ≤ b ∧ b ≤ 16384 ∧ -16384 ≤ c ∧ c ≤ 16384 ∧ -16384 ≤ d ∧ d ≤ 16384
noncomputable instance (a b c d : Int) : Decidable (VA a b c d) := Classical.propDecidable _
theorem not_ne0 : ¬ NE 0 0 0 0 := by unfold NE; omega
theorem v1 (a : Int) : rect_valid.f a = some (decide (-16384 ≤ a ∧ a ≤ 16384)) := by
  unfold rect_valid.f; split <;> simp <;> omega
theorem rv1 (a : Int) : compositorref04_coordinate.f a = some (decide (-16384 ≤ a ∧ a ≤ 16384)) := by
  unfold compositorref04_coordinate.f; split <;> simp <;> omega
theorem valid_eq (a b c d : Int) : rect_Valid.f a b c d = some (decide (VA a b c d)) := by
  simp only [rect_Valid.f, v1, Option.bind_some, decide_eq_true_eq]
  repeat' split
  all_goals (refine congrArg some (Bool.eq_iff_iff.mpr ?_); simp only [decide_eq_true_eq, Bool.false_eq_true, iff_true, iff_false, false_iff, true_iff] at *; (try simp only [VA, NE, HAS, WIN] at *); first | omega | (constructor <;> (intro _; omega)) | (intro _; omega) | skip)
theorem rvalid_eq (a b c d : Int) : compositorref04_Valid.f a b c d = some (decide (VA a b c d)) := by
  simp only [compositorref04_Valid.f, rv1, Option.bind_some, decide_eq_true_eq]
  repeat' split
  all_goals (refine congrArg some (Bool.eq_iff_iff.mpr ?_); simp only [decide_eq_true_eq, Bool.false_eq_true, iff_true, iff_false, false_iff, true_iff] at *; (try simp only [VA, NE, HAS, WIN] at *); first | omega | (constructor <;> (intro _; omega)) | (intro _; omega) | skip)
theorem empty_eq (a b c d : Int) : rect_Empty.f a b c d = some (decide (¬ NE a b c d)) := by
  simp only [rect_Empty.f, valid_eq, Option.bind_some, decide_eq_true_eq]
  repeat' split
  all_goals (refine congrArg some (Bool.eq_iff_iff.mpr ?_); simp only [decide_eq_true_eq, Bool.false_eq_true, iff_true, iff_false, false_iff, true_iff] at *; (try simp only [VA, NE, HAS, WIN] at *); first | omega | (constructor <;> (intro _; omega)) | (intro _; omega) | skip)
theorem rempty_eq (a b c d : Int) : compositorref04_Empty.f a b c d = some (decide (¬ NE a b c d)) := by
  simp only [compositorref04_Empty.f, rvalid_eq, Option.bind_some, decide_eq_true_eq]
  repeat' split
  all_goals (refine congrArg some (Bool.eq_iff_iff.mpr ?_); simp only [decide_eq_true_eq, Bool.false_eq_true, iff_true, iff_false, false_iff, true_iff] at *; (try simp only [VA, NE, HAS, WIN] at *); first | omega | (constructor <;> (intro _; omega)) | (intro _; omega) | skip)
/-- The canonical form. -/
noncomputable def can (a b c d : Int) : Int × Int × Int × Int := if NE a b c d then (a, b, c, d) else (0, 0, 0, 0)
theorem can_eq (a b c d : Int) : rect_Canonical.f a b c d = some (can a b c d) := by
  simp only [rect_Canonical.f, empty_eq, Option.bind_some, decide_eq_true_eq, can]
  by_cases h : NE a b c d <;> simp [h]
theorem rcan_eq (a b c d : Int) : compositorref04_Canonical.f a b c d = some (can a b c d) := by
  simp only [compositorref04_Canonical.f, rempty_eq, Option.bind_some, decide_eq_true_eq, can]
  by_cases h : NE a b c d <;> simp [h]
/-- The common pixels. -/
noncomputable def isc (a b c d a' b' c' d' : Int) : Int × Int × Int × Int :=
  if NE a b c d ∧ NE a' b' c' d' then can (mx a a') (mx b b') (mn c c') (mn d d') else (0, 0, 0, 0)
theorem isc_eq (a b c d a' b' c' d' : Int) : rect_Intersect.f a b c d a' b' c' d' = some (isc a b c d a' b' c' d') := by
  simp only [rect_Intersect.f, empty_eq, can_eq, Option.bind_some, decide_eq_true_eq, isc]
  by_cases h : NE a b c d <;> by_cases h' : NE a' b' c' d' <;> simp [h, h']
/-- The smallest rectangle with both. -/
noncomputable def uni (a b c d a' b' c' d' : Int) : Int × Int × Int × Int :=
  if NE a b c d then (if NE a' b' c' d' then (mn a a', mn b b', mx c c', mx d d') else (a, b, c, d)) else can a' b' c' d'
theorem uni_eq (a b c d a' b' c' d' : Int) : rect_Union.f a b c d a' b' c' d' = some (uni a b c d a' b' c' d') := by
  simp only [rect_Union.f, empty_eq, can_eq, Option.bind_some, decide_eq_true_eq, uni]
  by_cases h : NE a b c d <;> by_cases h' : NE a' b' c' d' <;> simp [h, h']
/-- The number of pixels. -/
noncomputable def ar (a b c d : Int) : Int := if NE a b c d then (c - a) * (d - b) else 0
theorem ar_range {a b c d : Int} (h : NE a b c d) : 0 < (c - a) * (d - b) ∧ (c - a) * (d - b) ≤ 1073741824 := by
  unfold NE at h
  have p : 0 < (c - a) * (d - b) := Int.mul_pos (by omega) (by omega)
  have q : (c - a) * (d - b) ≤ 32768 * 32768 := Int.mul_le_mul (by omega) (by omega) (by omega) (by omega)
  omega
theorem ar_le (a b c d : Int) : 0 ≤ ar a b c d ∧ ar a b c d ≤ 1073741824 := by
  unfold ar
  split
  · rename_i h; have := ar_range h; omega
  · omega
theorem area_eq (a b c d : Int) : rect_Area.f a b c d = some (ar a b c d) := by
  simp only [rect_Area.f, can_eq, Option.bind_some, can, ar]
  split
  · rename_i h
    have r := ar_range h
    unfold NE at h
    simp only
    rw [w64 (x := c - a) (by omega) (by omega), w64 (x := d - b) (by omega) (by omega), w64 (by omega) (by omega)]
  · decide +kernel

end Go.Proofs.Ytloojhnohofonaa.Pure
