/-
  Plain laws (numbers and lists) for the statement Rect: no program in sight.
-/
import Derived.Test.YtpihfglghcoojaaDoorAllx12
import Derived.Test.YtpihfglghcoojaaDoorAllx13
import Derived.Test.YtpihfglghcoojaaDoorAllx19
import Derived.Test.YtpihfglghcoojaaDoorAllx20
import Derived.Test.YtpihfglghcoojaaDoorAllx27
import Derived.Test.YtpihfglghcoojaaDoorAllx28
import Derived.Test.YtpihfglghcoojaaDoorPureBase
namespace Go.Proofs.YtpihfglghcoojaaDoor.Pure
open Go.RowKit Go.Proofs.YtpihfglghcoojaaDoorW.PrintWords Go.Proofs.YtpihfglghcoojaaDoorW.PrintMore Go.Proofs.YtpihfglghcoojaaDoor.All
set_option linter.unusedVariables false
set_option linter.unusedSimpArgs false
theorem mx_spec (a b : Int) : a ≤ mx a b ∧ b ≤ mx a b ∧ (mx a b = a ∨ mx a b = b) := by unfold mx; split <;> omega
theorem mn_spec (a b : Int) : mn a b ≤ a ∧ mn a b ≤ b ∧ (mn a b = a ∨ mn a b = b) := by unfold mn; split <;> omega
/-- A rectangle with a pixel. -/
def NE (a b c d : Int) : Prop := -16384 ≤ a ∧ a ≤ 16384 ∧ -16384 ≤ b ∧ b ≤ 16384 ∧ -16384 ≤ c ∧ c ≤ 16384 ∧ -16384 ≤ d ∧ d ≤ 16384 ∧ a < c ∧ b < d
noncomputable instance (a b c d : Int) : Decidable (NE a b c d) := Classical.propDecidable _
def HAS (a b c d x y : Int) : Prop := NE a b c d ∧ a ≤ x ∧ x < c ∧ b ≤ y ∧ y < d
noncomputable instance (a b c d x y : Int) : Decidable (HAS a b c d x y) := Classical.propDecidable _
def WIN (a b c d a' b' c' d' : Int) : Prop := NE a b c d → NE a' b' c' d' ∧ a' ≤ a ∧ b' ≤ b ∧ c ≤ c' ∧ d ≤ d'
noncomputable instance (a b c d a' b' c' d' : Int) : Decidable (WIN a b c d a' b' c' d') := Classical.propDecidable _
def VA (a b c d : Int) : Prop := -16384 ≤ a ∧ a ≤ 16384 ∧ -16384 ≤ b ∧ b ≤ 16384 ∧ -16384 ≤ c ∧ c ≤ 16384 ∧ -16384 ≤ d ∧ d ≤ 16384
noncomputable instance (a b c d : Int) : Decidable (VA a b c d) := Classical.propDecidable _
theorem not_ne0 : ¬ NE 0 0 0 0 := by unfold NE; omega
theorem v1 (a : Int) : rect_valid.f a = some (decide (-16384 ≤ a ∧ a ≤ 16384)) := by
  unfold rect_valid.f; split <;> simp <;> omega
theorem rv1 (a : Int) : compositorref04_coordinate.f a = some (decide (-16384 ≤ a ∧ a ≤ 16384)) := by
  unfold compositorref04_coordinate.f; split <;> simp <;> omega
theorem valid_eq (a b c d : Int) : rect_Valid.f a b c d = some (decide (VA a b c d)) := by
  simp only [rect_Valid.f, v1, Option.bind_some, decide_eq_true_eq]
  repeat' split
  all_goals (refine congrArg some (Bool.eq_iff_iff.mpr ?_); simp only [decide_eq_true_eq, Bool.false_eq_true, iff_true, iff_false, false_iff, true_iff] at *; (try simp only [VA, NE, HAS, WIN] at *); first | omega | (constructor <;> (intro _; omega)) | (intro _; omega) | skip)
theorem rvalid_eq (a b c d : Int) : compositorref04_Valid.f a b c d = some (decide (VA a b c d)) := by
  simp only [compositorref04_Valid.f, rv1, Option.bind_some, decide_eq_true_eq]
  repeat' split
  all_goals (refine congrArg some (Bool.eq_iff_iff.mpr ?_); simp only [decide_eq_true_eq, Bool.false_eq_true, iff_true, iff_false, false_iff, true_iff] at *; (try simp only [VA, NE, HAS, WIN] at *); first | omega | (constructor <;> (intro _; omega)) | (intro _; omega) | skip)
theorem empty_eq (a b c d : Int) : rect_Empty.f a b c d = some (decide (¬ NE a b c d)) := by
  simp only [rect_Empty.f, valid_eq, Option.bind_some, decide_eq_true_eq]
  repeat' split
  all_goals (refine congrArg some (Bool.eq_iff_iff.mpr ?_); simp only [decide_eq_true_eq, Bool.false_eq_true, iff_true, iff_false, false_iff, true_iff] at *; (try simp only [VA, NE, HAS, WIN] at *); first | omega | (constructor <;> (intro _; omega)) | (intro _; omega) | skip)
theorem rempty_eq (a b c d : Int) : compositorref04_Empty.f a b c d = some (decide (¬ NE a b c d)) := by
  simp only [compositorref04_Empty.f, rvalid_eq, Option.bind_some, decide_eq_true_eq]
  repeat' split
  all_goals (refine congrArg some (Bool.eq_iff_iff.mpr ?_); simp only [decide_eq_true_eq, Bool.false_eq_true, iff_true, iff_false, false_iff, true_iff] at *; (try simp only [VA, NE, HAS, WIN] at *); first | omega | (constructor <;> (intro _; omega)) | (intro _; omega) | skip)
/-- The canonical form. -/
noncomputable def can (a b c d : Int) : Int × Int × Int × Int := if NE a b c d then (a, b, c, d) else (0, 0, 0, 0)
theorem can_eq (a b c d : Int) : rect_Canonical.f a b c d = some (can a b c d) := by
  simp only [rect_Canonical.f, empty_eq, Option.bind_some, decide_eq_true_eq, can]
  by_cases h : NE a b c d <;> simp [h]
theorem rcan_eq (a b c d : Int) : compositorref04_Canonical.f a b c d = some (can a b c d) := by
  simp only [compositorref04_Canonical.f, rempty_eq, Option.bind_some, decide_eq_true_eq, can]
  by_cases h : NE a b c d <;> simp [h]
/-- The common pixels. -/
noncomputable def isc (a b c d a' b' c' d' : Int) : Int × Int × Int × Int :=
  if NE a b c d ∧ NE a' b' c' d' then can (mx a a') (mx b b') (mn c c') (mn d d') else (0, 0, 0, 0)
theorem isc_eq (a b c d a' b' c' d' : Int) : rect_Intersect.f a b c d a' b' c' d' = some (isc a b c d a' b' c' d') := by
  simp only [rect_Intersect.f, empty_eq, can_eq, Option.bind_some, decide_eq_true_eq, isc]
  by_cases h : NE a b c d <;> by_cases h' : NE a' b' c' d' <;> simp [h, h']
/-- The number of pixels. -/
noncomputable def ar (a b c d : Int) : Int := if NE a b c d then (c - a) * (d - b) else 0
theorem ar_range {a b c d : Int} (h : NE a b c d) : 0 < (c - a) * (d - b) ∧ (c - a) * (d - b) ≤ 1073741824 := by
  unfold NE at h
  have p : 0 < (c - a) * (d - b) := Int.mul_pos (by omega) (by omega)
  have q : (c - a) * (d - b) ≤ 32768 * 32768 := Int.mul_le_mul (by omega) (by omega) (by omega) (by omega)
  omega
theorem ar_le (a b c d : Int) : 0 ≤ ar a b c d ∧ ar a b c d ≤ 1073741824 := by
  unfold ar
  split
  · rename_i h; have := ar_range h; omega
  · omega
theorem rarea_eq (a b c d : Int) : compositorref04_Area.f a b c d = some (ar a b c d) := by
  simp only [compositorref04_Area.f, rcan_eq, Option.bind_some, can, ar]
  split
  · rename_i h
    have r := ar_range h
    unfold NE at h
    simp only
    rw [w64 (x := c - a) (by omega) (by omega), w64 (x := d - b) (by omega) (by omega), w64 (by omega) (by omega)]
  · decide +kernel
theorem risc_eq (a b c d a' b' c' d' : Int) : compositorref04_Intersect.f a b c d a' b' c' d' = some (isc a b c d a' b' c' d') := by
  simp only [compositorref04_Intersect.f, rempty_eq, rcan_eq, Option.bind_some, decide_eq_true_eq, isc]
  by_cases h : NE a b c d <;> by_cases h' : NE a' b' c' d' <;> simp [h, h']
theorem rwin_eq (a b c d a' b' c' d' : Int) : compositorref04_Within.f a b c d a' b' c' d' = some (decide (WIN a b c d a' b' c' d')) := by
  simp only [compositorref04_Within.f, rempty_eq, Option.bind_some, decide_eq_true_eq]
  by_cases h : NE a b c d
  · by_cases h' : NE a' b' c' d'
    · simp only [h, h', not_true_eq_false, if_false, WIN, true_and, true_implies]
      repeat' split
      all_goals (refine congrArg some (Bool.eq_iff_iff.mpr ?_); simp only [decide_eq_true_eq, Bool.false_eq_true, iff_true, iff_false, false_iff, true_iff] at *; (try simp only [VA, NE, HAS, WIN] at *); first | omega | (constructor <;> (intro _; omega)) | (intro _; omega) | skip)
    · simp [h, h', WIN]
  · simp [h, WIN]
theorem rhas_eq (a b c d x y : Int) : compositorref04_Contains.f a b c d x y = some (decide (HAS a b c d x y)) := by
  simp only [compositorref04_Contains.f, rempty_eq, Option.bind_some, decide_eq_true_eq]
  by_cases h : NE a b c d
  · simp only [h, not_true_eq_false, if_false, HAS, true_and]
    repeat' split
    all_goals (refine congrArg some (Bool.eq_iff_iff.mpr ?_); simp only [decide_eq_true_eq, Bool.false_eq_true, iff_true, iff_false, false_iff, true_iff] at *; (try simp only [VA, NE, HAS, WIN] at *); first | omega | (constructor <;> (intro _; omega)) | (intro _; omega) | skip)
  · simp [h, HAS]
theorem isc_cases (a b c d a' b' c' d' : Int) : ∃ i0 i1 i2 i3, isc a b c d a' b' c' d' = (i0, i1, i2, i3) ∧
    ((¬ NE i0 i1 i2 i3 ∧ i0 = 0 ∧ i1 = 0 ∧ i2 = 0 ∧ i3 = 0 ∧ (NE a b c d → NE a' b' c' d' → ¬ NE (mx a a') (mx b b') (mn c c') (mn d d'))) ∨
     (NE i0 i1 i2 i3 ∧ NE a b c d ∧ NE a' b' c' d' ∧ i0 = mx a a' ∧ i1 = mx b b' ∧ i2 = mn c c' ∧ i3 = mn d d')) := by
  unfold isc
  by_cases h : NE a b c d ∧ NE a' b' c' d'
  · rw [if_pos h]
    unfold can
    by_cases hn : NE (mx a a') (mx b b') (mn c c') (mn d d')
    · rw [if_pos hn]
      exact ⟨_, _, _, _, rfl, .inr ⟨hn, h.1, h.2, rfl, rfl, rfl, rfl⟩⟩
    · rw [if_neg hn]
      exact ⟨_, _, _, _, rfl, .inl ⟨not_ne0, rfl, rfl, rfl, rfl, fun _ _ => hn⟩⟩
  · rw [if_neg h]
    exact ⟨_, _, _, _, rfl, .inl ⟨not_ne0, rfl, rfl, rfl, rfl, fun h1 h2 => absurd ⟨h1, h2⟩ h⟩⟩
theorem has_isc (a b c d a' b' c' d' x y : Int) {i0 i1 i2 i3 : Int} (e : isc a b c d a' b' c' d' = (i0, i1, i2, i3)) : HAS i0 i1 i2 i3 x y ↔ HAS a b c d x y ∧ HAS a' b' c' d' x y := by
  obtain ⟨j0, j1, j2, j3, e', h⟩ := isc_cases a b c d a' b' c' d'
  obtain ⟨rfl, rfl, rfl, rfl⟩ : j0 = i0 ∧ j1 = i1 ∧ j2 = i2 ∧ j3 = i3 := by rw [e] at e'; simp_all
  have m1 := mx_spec a a'
  have m2 := mx_spec b b'
  have m3 := mn_spec c c'
  have m4 := mn_spec d d'
  rcases h with ⟨hn, rfl, rfl, rfl, rfl, h⟩ | ⟨hn, h1, h2, rfl, rfl, rfl, rfl⟩
  · constructor
    · intro h; exact absurd h.1 hn
    · rintro ⟨⟨h1, p⟩, ⟨h2, q⟩⟩
      refine absurd ?_ (h h1 h2)
      unfold NE at h1 h2 ⊢
      omega
  · constructor
    · rintro ⟨_, p⟩
      exact ⟨⟨h1, by omega⟩, ⟨h2, by omega⟩⟩
    · rintro ⟨⟨_, p⟩, ⟨_, q⟩⟩
      exact ⟨hn, by omega⟩

end Go.Proofs.YtpihfglghcoojaaDoor.Pure
