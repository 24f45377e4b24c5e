/-
  Plain laws (numbers and lists) for the statement TransformComposes: no program in sight.
-/
import Derived.Test.YtpihfglghcoojaaDoorAllx10
import Derived.Test.YtpihfglghcoojaaDoorAllx11
import Derived.Test.YtpihfglghcoojaaDoorAllx12
import Derived.Test.YtpihfglghcoojaaDoorAllx13
import Derived.Test.YtpihfglghcoojaaDoorAllx14
import Derived.Test.YtpihfglghcoojaaDoorAllx15
import Derived.Test.YtpihfglghcoojaaDoorAllx17
import Derived.Test.YtpihfglghcoojaaDoorAllx18
import Derived.Test.YtpihfglghcoojaaDoorAllx19
import Derived.Test.YtpihfglghcoojaaDoorAllx20
import Derived.Test.YtpihfglghcoojaaDoorAllx21
import Derived.Test.YtpihfglghcoojaaDoorAllx23
import Derived.Test.YtpihfglghcoojaaDoorAllx25
import Derived.Test.YtpihfglghcoojaaDoorAllx26
import Derived.Test.YtpihfglghcoojaaDoorAllx27
import Derived.Test.YtpihfglghcoojaaDoorAllx28
import Derived.Test.YtpihfglghcoojaaDoorAllx4
import Derived.Test.YtpihfglghcoojaaDoorAllx5
import Derived.Test.YtpihfglghcoojaaDoorAllx6
import Derived.Test.YtpihfglghcoojaaDoorAllx8
import Derived.Test.YtpihfglghcoojaaDoorAllx9
import Derived.Test.YtpihfglghcoojaaDoorAllx90
namespace Go.Proofs.YtpihfglghcoojaaDoor.Pure
open Go.RowKit Go.Proofs.YtpihfglghcoojaaDoorW.PrintWords Go.Proofs.YtpihfglghcoojaaDoorW.PrintMore Go.Proofs.YtpihfglghcoojaaDoor.All
set_option linter.unusedVariables false
set_option linter.unusedSimpArgs false
theorem i64 {x : Int} (h : (Lit.int .i64 x).wf = true) : -9223372036854775808 ≤ x ∧ x ≤ 9223372036854775807 := by
  simpa [Lit.wf, IntKind.min, IntKind.max, IntKind.signed, IntKind.bits] using h
theorem w64 {x : Int} (h : -9223372036854775808 ≤ x) (h' : x ≤ 9223372036854775807) : wrap64 x = x := by unfold wrap64; omega
/-- What holds with some fuel holds with more. -/
theorem fuel {α : Type} {f : Nat → Option α} (hm : ∀ k r, f k = some r → f (k + 1) = some r) {K : Nat} {r : α} (h : f K = some r) : ∀ k, K ≤ k → f k = some r := by
  intro k hk
  obtain ⟨j, rfl⟩ : ∃ j, k = K + j := ⟨k - K, by omega⟩
  clear hk
  induction j with
  | zero => exact h
  | succ j ih => exact hm _ _ ih
theorem example_holds : ∀ k, 8 ≤ k → compositorlaw07_exampleHolds.f k = some true :=
  fuel (f := fun k => compositorlaw07_exampleHolds.f k) (fun k r h => compositorlaw07_exampleHolds.mono k r h) (by decide +kernel)
/-- The transform that a number stands for. -/
def cl (a : Int) : Nat := if 0 ≤ a ∧ a ≤ 7 then a.toNat else 0
theorem cl_lt (a : Int) : cl a < 8 := by unfold cl; split <;> omega
theorem cl_idem {n : Nat} (h : n < 8) : cl (n : Int) = n := by unfold cl; rw [if_pos ⟨by omega, by omega⟩]; simp
theorem valid_eq' (a : Int) : transform_Valid.f a = some (decide (0 ≤ a ∧ a ≤ 7)) := by
  unfold transform_Valid.f
  split <;> (refine congrArg some (Bool.eq_iff_iff.mpr ?_); simp only [decide_eq_true_eq, Bool.false_eq_true, false_iff]; omega)
theorem rvalid_eq' (a : Int) : compositorref07_Valid.f a = some (decide (0 ≤ a ∧ a ≤ 7)) := by
  unfold compositorref07_Valid.f
  split <;> (refine congrArg some (Bool.eq_iff_iff.mpr ?_); simp only [decide_eq_true_eq, Bool.false_eq_true, false_iff]; omega)
theorem normal_eq (a : Int) : transform_normal.f a = some (cl a : Int) := by
  simp only [transform_normal.f, valid_eq', Option.bind_some, cl, decide_eq_true_eq]
  split
  · rename_i h; rw [Int.toNat_of_nonneg h.1]
  · rfl
theorem clean_eq (a : Int) : compositorref07_clean.f a = some (cl a : Int) := by
  simp only [compositorref07_clean.f, rvalid_eq', Option.bind_some, cl, decide_eq_true_eq]
  split
  · rename_i h; rw [Int.toNat_of_nonneg h.1]
  · rfl
theorem lclean_eq (a : Int) : compositorlaw07_clean.f a = some (cl a : Int) := by
  simp only [compositorlaw07_clean.f, rvalid_eq', Option.bind_some, cl, decide_eq_true_eq]
  split
  · rename_i h; rw [Int.toNat_of_nonneg h.1]
  · rfl
/-- One transform behind another. -/
def cmp (x y : Nat) : Nat := (Go.Proofs.YtpihfglghcoojaaDoorHand.prods.getD (8 * x + y) 0).toNat
theorem cmp_nn : ∀ x, x < 8 → ∀ y, y < 8 → Go.Proofs.YtpihfglghcoojaaDoorHand.prods.getD (8 * x + y) 0 = (cmp x y : Int) ∧ cmp x y < 8 := by decide
theorem compose_eq (a b : Int) : transform_Compose.f a b = some (cmp (cl a) (cl b) : Int) := by
  simp only [transform_Compose.f, normal_eq, Option.bind_some]
  have e : (8 * (cl a : Int) + (cl b : Int)).toNat = 8 * cl a + cl b := by omega
  rw [e, (cmp_nn _ (cl_lt a) _ (cl_lt b)).1]
def inv (x : Nat) : Nat := transform_Invert.inv x
theorem inv_lt : ∀ x, x < 8 → inv x < 8 := by decide
theorem invert_eq (a : Int) : transform_Invert.f a = some (inv (cl a) : Int) := by
  simp only [transform_Invert.f, normal_eq, Option.bind_some, Int.toNat_natCast, inv]
/-- The size of the transformed image. -/
def odd (x : Nat) : Prop := x % 2 = 1
instance (x : Nat) : Decidable (odd x) := inferInstanceAs (Decidable (x % 2 = 1))
theorem tmod_odd (x : Nat) : (Int.tmod (x : Int) 2 = 1) ↔ odd x := by
  unfold odd
  rw [Int.tmod_eq_emod_of_nonneg (by omega)]
  omega
theorem size_eq (a w h : Int) : transform_Size.f a w h = some (if odd (cl a) then (h, w) else (w, h)) := by
  simp only [transform_Size.f, normal_eq, Option.bind_some, tmod_odd]
  split <;> rfl
theorem rsize_eq (a w h : Int) : compositorref07_Size.f a w h = some (if odd (cl a) then (h, w) else (w, h)) := by
  simp only [compositorref07_Size.f, clean_eq, Option.bind_some, tmod_odd]
  split <;> rfl
theorem mx_spec (a b : Int) : a ≤ mx a b ∧ b ≤ mx a b ∧ (mx a b = a ∨ mx a b = b) := by unfold mx; split <;> omega
theorem mn_spec (a b : Int) : mn a b ≤ a ∧ mn a b ≤ b ∧ (mn a b = a ∨ mn a b = b) := by unfold mn; split <;> omega
/-- A rectangle with a pixel. -/
def NE (a b c d : Int) : Prop := -16384 ≤ a ∧ a ≤ 16384 ∧ -16384 ≤ b ∧ b ≤ 16384 ∧ -16384 ≤ c ∧ c ≤ 16384 ∧ -16384 ≤ d ∧ d ≤ 16384 ∧ a < c ∧ b < d
noncomputable instance (a b c d : Int) : Decidable (NE a b c d) := Classical.propDecidable _
def HAS (a b c d x y : Int) : Prop := NE a b c d ∧ a ≤ x ∧ x < c ∧ b ≤ y ∧ y < d
noncomputable instance (a b c d x y : Int) : Decidable (HAS a b c d x y) := Classical.propDecidable _
def WIN (a b c d a' b' c' d' : Int) : Prop := NE a b c d → NE a' b' c' d' ∧ a' ≤ a ∧ b' ≤ b ∧ c ≤ c' ∧ d ≤ d'
noncomputable instance (a b c d a' b' c' d' : Int) : Decidable (WIN a b c d a' b' c' d') := Classical.propDecidable _
def VA (a b c d : Int) : Prop := -16384 ≤ a ∧ a ≤ 16384 ∧ -16384 ≤ b ∧ b ≤ 16384 ∧ -16384 ≤ c ∧ c ≤ 16384 ∧ -16384 ≤ d ∧ d ≤ 16384
noncomputable instance (a b c d : Int) : Decidable (VA a b c d) := Classical.propDecidable _
theorem not_ne0 : ¬ NE 0 0 0 0 := by unfold NE; omega
theorem v1 (a : Int) : rect_valid.f a = some (decide (-16384 ≤ a ∧ a ≤ 16384)) := by
  unfold rect_valid.f; split <;> simp <;> omega
theorem rv1 (a : Int) : compositorref04_coordinate.f a = some (decide (-16384 ≤ a ∧ a ≤ 16384)) := by
  unfold compositorref04_coordinate.f; split <;> simp <;> omega
theorem valid_eq (a b c d : Int) : rect_Valid.f a b c d = some (decide (VA a b c d)) := by
  simp only [rect_Valid.f, v1, Option.bind_some, decide_eq_true_eq]
  repeat' split
  all_goals (refine congrArg some (Bool.eq_iff_iff.mpr ?_); simp only [decide_eq_true_eq, Bool.false_eq_true, iff_true, iff_false, false_iff, true_iff] at *; (try simp only [VA, NE, HAS, WIN] at *); first | omega | (constructor <;> (intro _; omega)) | (intro _; omega) | skip)
theorem rvalid_eq (a b c d : Int) : compositorref04_Valid.f a b c d = some (decide (VA a b c d)) := by
  simp only [compositorref04_Valid.f, rv1, Option.bind_some, decide_eq_true_eq]
  repeat' split
  all_goals (refine congrArg some (Bool.eq_iff_iff.mpr ?_); simp only [decide_eq_true_eq, Bool.false_eq_true, iff_true, iff_false, false_iff, true_iff] at *; (try simp only [VA, NE, HAS, WIN] at *); first | omega | (constructor <;> (intro _; omega)) | (intro _; omega) | skip)
theorem empty_eq (a b c d : Int) : rect_Empty.f a b c d = some (decide (¬ NE a b c d)) := by
  simp only [rect_Empty.f, valid_eq, Option.bind_some, decide_eq_true_eq]
  repeat' split
  all_goals (refine congrArg some (Bool.eq_iff_iff.mpr ?_); simp only [decide_eq_true_eq, Bool.false_eq_true, iff_true, iff_false, false_iff, true_iff] at *; (try simp only [VA, NE, HAS, WIN] at *); first | omega | (constructor <;> (intro _; omega)) | (intro _; omega) | skip)
theorem rempty_eq (a b c d : Int) : compositorref04_Empty.f a b c d = some (decide (¬ NE a b c d)) := by
  simp only [compositorref04_Empty.f, rvalid_eq, Option.bind_some, decide_eq_true_eq]
  repeat' split
  all_goals (refine congrArg some (Bool.eq_iff_iff.mpr ?_); simp only [decide_eq_true_eq, Bool.false_eq_true, iff_true, iff_false, false_iff, true_iff] at *; (try simp only [VA, NE, HAS, WIN] at *); first | omega | (constructor <;> (intro _; omega)) | (intro _; omega) | skip)
/-- The canonical form. -/
noncomputable def can (a b c d : Int) : Int × Int × Int × Int := if NE a b c d then (a, b, c, d) else (0, 0, 0, 0)
theorem can_eq (a b c d : Int) : rect_Canonical.f a b c d = some (can a b c d) := by
  simp only [rect_Canonical.f, empty_eq, Option.bind_some, decide_eq_true_eq, can]
  by_cases h : NE a b c d <;> simp [h]
theorem rcan_eq (a b c d : Int) : compositorref04_Canonical.f a b c d = some (can a b c d) := by
  simp only [compositorref04_Canonical.f, rempty_eq, Option.bind_some, decide_eq_true_eq, can]
  by_cases h : NE a b c d <;> simp [h]
/-- The common pixels. -/
noncomputable def isc (a b c d a' b' c' d' : Int) : Int × Int × Int × Int :=
  if NE a b c d ∧ NE a' b' c' d' then can (mx a a') (mx b b') (mn c c') (mn d d') else (0, 0, 0, 0)
theorem isc_eq (a b c d a' b' c' d' : Int) : rect_Intersect.f a b c d a' b' c' d' = some (isc a b c d a' b' c' d') := by
  simp only [rect_Intersect.f, empty_eq, can_eq, Option.bind_some, decide_eq_true_eq, isc]
  by_cases h : NE a b c d <;> by_cases h' : NE a' b' c' d' <;> simp [h, h']
/-- The number of pixels. -/
noncomputable def ar (a b c d : Int) : Int := if NE a b c d then (c - a) * (d - b) else 0
theorem ar_range {a b c d : Int} (h : NE a b c d) : 0 < (c - a) * (d - b) ∧ (c - a) * (d - b) ≤ 1073741824 := by
  unfold NE at h
  have p : 0 < (c - a) * (d - b) := Int.mul_pos (by omega) (by omega)
  have q : (c - a) * (d - b) ≤ 32768 * 32768 := Int.mul_le_mul (by omega) (by omega) (by omega) (by omega)
  omega
theorem ar_le (a b c d : Int) : 0 ≤ ar a b c d ∧ ar a b c d ≤ 1073741824 := by
  unfold ar
  split
  · rename_i h; have := ar_range h; omega
  · omega
theorem rarea_eq (a b c d : Int) : compositorref04_Area.f a b c d = some (ar a b c d) := by
  simp only [compositorref04_Area.f, rcan_eq, Option.bind_some, can, ar]
  split
  · rename_i h
    have r := ar_range h
    unfold NE at h
    simp only
    rw [w64 (x := c - a) (by omega) (by omega), w64 (x := d - b) (by omega) (by omega), w64 (by omega) (by omega)]
  · decide +kernel
theorem risc_eq (a b c d a' b' c' d' : Int) : compositorref04_Intersect.f a b c d a' b' c' d' = some (isc a b c d a' b' c' d') := by
  simp only [compositorref04_Intersect.f, rempty_eq, rcan_eq, Option.bind_some, decide_eq_true_eq, isc]
  by_cases h : NE a b c d <;> by_cases h' : NE a' b' c' d' <;> simp [h, h']
theorem rwin_eq (a b c d a' b' c' d' : Int) : compositorref04_Within.f a b c d a' b' c' d' = some (decide (WIN a b c d a' b' c' d')) := by
  simp only [compositorref04_Within.f, rempty_eq, Option.bind_some, decide_eq_true_eq]
  by_cases h : NE a b c d
  · by_cases h' : NE a' b' c' d'
    · simp only [h, h', not_true_eq_false, if_false, WIN, true_and, true_implies]
      repeat' split
      all_goals (refine congrArg some (Bool.eq_iff_iff.mpr ?_); simp only [decide_eq_true_eq, Bool.false_eq_true, iff_true, iff_false, false_iff, true_iff] at *; (try simp only [VA, NE, HAS, WIN] at *); first | omega | (constructor <;> (intro _; omega)) | (intro _; omega) | skip)
    · simp [h, h', WIN]
  · simp [h, WIN]
theorem rhas_eq (a b c d x y : Int) : compositorref04_Contains.f a b c d x y = some (decide (HAS a b c d x y)) := by
  simp only [compositorref04_Contains.f, rempty_eq, Option.bind_some, decide_eq_true_eq]
  by_cases h : NE a b c d
  · simp only [h, not_true_eq_false, if_false, HAS, true_and]
    repeat' split
    all_goals (refine congrArg some (Bool.eq_iff_iff.mpr ?_); simp only [decide_eq_true_eq, Bool.false_eq_true, iff_true, iff_false, false_iff, true_iff] at *; (try simp only [VA, NE, HAS, WIN] at *); first | omega | (constructor <;> (intro _; omega)) | (intro _; omega) | skip)
  · simp [h, HAS]
theorem isc_cases (a b c d a' b' c' d' : Int) : ∃ i0 i1 i2 i3, isc a b c d a' b' c' d' = (i0, i1, i2, i3) ∧
    ((¬ NE i0 i1 i2 i3 ∧ i0 = 0 ∧ i1 = 0 ∧ i2 = 0 ∧ i3 = 0 ∧ (NE a b c d → NE a' b' c' d' → ¬ NE (mx a a') (mx b b') (mn c c') (mn d d'))) ∨
     (NE i0 i1 i2 i3 ∧ NE a b c d ∧ NE a' b' c' d' ∧ i0 = mx a a' ∧ i1 = mx b b' ∧ i2 = mn c c' ∧ i3 = mn d d')) := by
  unfold isc
  by_cases h : NE a b c d ∧ NE a' b' c' d'
  · rw [if_pos h]
    unfold can
    by_cases hn : NE (mx a a') (mx b b') (mn c c') (mn d d')
    · rw [if_pos hn]
      exact ⟨_, _, _, _, rfl, .inr ⟨hn, h.1, h.2, rfl, rfl, rfl, rfl⟩⟩
    · rw [if_neg hn]
      exact ⟨_, _, _, _, rfl, .inl ⟨not_ne0, rfl, rfl, rfl, rfl, fun _ _ => hn⟩⟩
  · rw [if_neg h]
    exact ⟨_, _, _, _, rfl, .inl ⟨not_ne0, rfl, rfl, rfl, rfl, fun h1 h2 => absurd ⟨h1, h2⟩ h⟩⟩
theorem has_isc (a b c d a' b' c' d' x y : Int) {i0 i1 i2 i3 : Int} (e : isc a b c d a' b' c' d' = (i0, i1, i2, i3)) : HAS i0 i1 i2 i3 x y ↔ HAS a b c d x y ∧ HAS a' b' c' d' x y := by
  obtain ⟨j0, j1, j2, j3, e', h⟩ := isc_cases a b c d a' b' c' d'
  obtain ⟨rfl, rfl, rfl, rfl⟩ : j0 = i0 ∧ j1 = i1 ∧ j2 = i2 ∧ j3 = i3 := by rw [e] at e'; simp_all
  have m1 := mx_spec a a'
  have m2 := mx_spec b b'
  have m3 := mn_spec c c'
  have m4 := mn_spec d d'
  rcases h with ⟨hn, rfl, rfl, rfl, rfl, h⟩ | ⟨hn, h1, h2, rfl, rfl, rfl, rfl⟩
  · constructor
    · intro h; exact absurd h.1 hn
    · rintro ⟨⟨h1, p⟩, ⟨h2, q⟩⟩
      refine absurd ?_ (h h1 h2)
      unfold NE at h1 h2 ⊢
      omega
  · constructor
    · rintro ⟨_, p⟩
      exact ⟨⟨h1, by omega⟩, ⟨h2, by omega⟩⟩
    · rintro ⟨⟨_, p⟩, ⟨_, q⟩⟩
      exact ⟨hn, by omega⟩
theorem bind_eta (o : Option (Int × Int)) : (o.bind fun p => some (p.1, p.2)) = o := by cases o <;> rfl
/-- Where a pixel goes. -/
def ap (t : Nat) (w h x y : Int) : Int × Int :=
  match t with
  | 0 => (x, y)
  | 1 => (y, w - 1 - x)
  | 2 => (w - 1 - x, h - 1 - y)
  | 3 => (h - 1 - y, x)
  | 4 => (w - 1 - x, y)
  | 5 => (y, x)
  | 6 => (x, h - 1 - y)
  | _ => (h - 1 - y, w - 1 - x)
/-- A pixel of an image. -/
def IN (w h x y : Int) : Prop := (1 ≤ w ∧ w ≤ 16384 ∧ 1 ≤ h ∧ h ≤ 16384) ∧ 0 ≤ x ∧ x < w ∧ 0 ≤ y ∧ y < h
noncomputable instance (w h x y : Int) : Decidable (IN w h x y) := Classical.propDecidable _
theorem lt8 {t : Nat} (h : t < 8) : t = 0 ∨ t = 1 ∨ t = 2 ∨ t = 3 ∨ t = 4 ∨ t = 5 ∨ t = 6 ∨ t = 7 := by omega
theorem ap_w {w h x y : Int} (hi : IN w h x y) : wrap64 (w - 1) = w - 1 ∧ wrap64 (h - 1) = h - 1 ∧ wrap64 (w - 1 - x) = w - 1 - x ∧ wrap64 (h - 1 - y) = h - 1 - y ∧ wrap64 (w - 1 - (w - 1 - x)) = x ∧ wrap64 (w - 1 - y) = w - 1 - y ∧ wrap64 (h - 1 - x) = h - 1 - x := by
  unfold IN at hi
  refine ⟨?_, ?_, ?_, ?_, ?_, ?_, ?_⟩ <;> (unfold wrap64; omega)
theorem apply_eq {t : Nat} (ht : t < 8) {w h x y : Int} (hi : IN w h x y) : ∀ k, 1 ≤ k → transform_apply.f k t w h x y = some (ap t w h x y) := by
  intro k hk
  obtain ⟨k, rfl⟩ : ∃ j, k = j + 1 := ⟨k - 1, by omega⟩
  obtain ⟨e1, e2, e3, e4, e5, e6, e7⟩ := ap_w hi
  rcases lt8 ht with rfl | rfl | rfl | rfl | rfl | rfl | rfl | rfl <;> simp [transform_apply.f, transform_apply.j0, ap, e1, e2, e3, e4, e5, e6, e7]
theorem place_eq {t : Nat} (ht : t < 8) {w h x y : Int} (hi : IN w h x y) : ∀ k, 6 ≤ k → compositorref07_place.f k t w h x y = some (ap t w h x y) := by
  intro k hk
  obtain ⟨k, rfl⟩ : ∃ j, k = j + 6 := ⟨k - 6, by omega⟩
  obtain ⟨e1, e2, e3, e4, e5, e6, e7⟩ := ap_w hi
  have f5 : wrap64 (h - 1 - (h - 1 - y)) = y := by unfold IN at hi; unfold wrap64; omega
  have o1 : wrap64 1 = 1 := by unfold wrap64; omega
  have o2 : wrap64 2 = 2 := by unfold wrap64; omega
  have o3 : wrap64 3 = 3 := by unfold wrap64; omega
  rcases lt8 ht with rfl | rfl | rfl | rfl | rfl | rfl | rfl | rfl <;> simp [compositorref07_place.f, compositorref07_place.j0, compositorref07_place.l0, compositorref07_flip.f, compositorref07_turn.f, ap, e1, e2, e3, e4, e5, e6, e7, f5, o1, o2, o3]
def SZ (w h : Int) : Prop := 1 ≤ w ∧ w ≤ 16384 ∧ 1 ≤ h ∧ h ≤ 16384
noncomputable instance (w h : Int) : Decidable (SZ w h) := Classical.propDecidable _
theorem inside_eq (w h : Int) : transform_inside.f w h = some (decide (SZ w h)) := by
  unfold transform_inside.f
  repeat' split
  all_goals (refine congrArg some (Bool.eq_iff_iff.mpr ?_); simp only [decide_eq_true_eq, Bool.false_eq_true, false_iff]; unfold SZ; omega)
theorem sized_eq (w h : Int) : compositorref07_sized.f w h = some (decide (SZ w h)) := by
  unfold compositorref07_sized.f
  repeat' split
  all_goals (refine congrArg some (Bool.eq_iff_iff.mpr ?_); simp only [decide_eq_true_eq, Bool.false_eq_true, false_iff]; unfold SZ; omega)
/-- Where a point goes, if it is one of the image. -/
noncomputable def AP (a w h x y : Int) : Int × Int := if IN w h x y then ap (cl a) w h x y else (0, 0)
theorem AP_in {a w h x y : Int} (h1 : IN w h x y) : AP a w h x y = ap (cl a) w h x y := if_pos h1
theorem Apply_eq (a w h x y : Int) : ∀ k, 2 ≤ k → transform_Apply.f k a w h x y = some (AP a w h x y) := by
  intro k hk
  obtain ⟨k, rfl⟩ : ∃ j, k = j + 2 := ⟨k - 2, by omega⟩
  have j1 : ∀ b, transform_Apply.j0 (k + 2) a w h b x y = if b = true then some (0, 0) else (transform_apply.f (k + 1) (cl a) w h x y) := by
    intro b
    simp only [transform_Apply.j0, normal_eq, Option.bind_some]
    cases b <;> simp [bind_eta]
  simp only [transform_Apply.f, inside_eq, Option.bind_some, decide_eq_true_eq, j1, if_true]
  by_cases hi : IN w h x y
  · have hs : SZ w h := hi.1
    have hb := hi.2
    rw [AP_in hi, if_pos hs, if_neg (by omega), if_neg (by omega), if_neg (by omega), if_neg (by omega), apply_eq (cl_lt a) hi _ (by omega)]
  · unfold AP
    rw [if_neg hi]
    by_cases hs : SZ w h
    · rw [if_pos hs]
      repeat' split
      all_goals first | rfl | (exfalso; apply hi; refine ⟨hs, ?_⟩; omega)
    · rw [if_neg hs]
theorem rApply_eq (a w h x y : Int) : ∀ k, 8 ≤ k → compositorref07_Apply.f k a w h x y = some (AP a w h x y) := by
  intro k hk
  obtain ⟨k, rfl⟩ : ∃ j, k = j + 7 := ⟨k - 7, by omega⟩
  have j1 : ∀ b, compositorref07_Apply.j0 (k + 7) a w h b x y = if b = true then some (0, 0) else (compositorref07_place.f (k + 6) (cl a) w h x y) := by
    intro b
    simp only [compositorref07_Apply.j0, clean_eq, Option.bind_some]
    cases b <;> simp [bind_eta]
  simp only [compositorref07_Apply.f, sized_eq, Option.bind_some, decide_eq_true_eq, j1, if_true]
  by_cases hi : IN w h x y
  · have hs : SZ w h := hi.1
    have hb := hi.2
    rw [AP_in hi, if_pos hs, if_neg (by omega), if_neg (by omega), if_neg (by omega), if_neg (by omega), place_eq (cl_lt a) hi _ (by omega)]
  · unfold AP
    rw [if_neg hi]
    by_cases hs : SZ w h
    · rw [if_pos hs]
      repeat' split
      all_goals first | rfl | (exfalso; apply hi; refine ⟨hs, ?_⟩; omega)
    · rw [if_neg hs]
theorem sz_ne {w h : Int} (hs : SZ w h) : NE 0 0 w h := by unfold SZ at hs; unfold NE; omega
/-- The part of a rectangle in an image. -/
noncomputable def cut (w h a b c d : Int) : Int × Int × Int × Int := isc a b c d 0 0 w h
theorem cut_in {w h a b c d : Int} (hs : SZ w h) (hn : NE (cut w h a b c d).1 (cut w h a b c d).2.1 (cut w h a b c d).2.2.1 (cut w h a b c d).2.2.2) :
    IN w h (cut w h a b c d).1 (cut w h a b c d).2.1 ∧ IN w h ((cut w h a b c d).2.2.1 - 1) ((cut w h a b c d).2.2.2 - 1) := by
  have hne := sz_ne hs
  unfold cut isc at *
  by_cases h1 : NE a b c d ∧ NE 0 0 w h
  · rw [if_pos h1] at *
    unfold can at *
    by_cases h2 : NE (mx a 0) (mx b 0) (mn c w) (mn d h)
    · rw [if_pos h2] at *
      have m1 := mx_spec a 0; have m2 := mx_spec b 0; have m3 := mn_spec c w; have m4 := mn_spec d h
      simp only at *
      unfold NE at h2
      unfold SZ at hs
      refine ⟨⟨hs, ?_⟩, ⟨hs, ?_⟩⟩ <;> omega
    · rw [if_neg h2] at hn
      exact absurd hn not_ne0
  · rw [if_neg h1] at hn
    exact absurd hn not_ne0
/-- Where a rectangle goes. -/
noncomputable def APR (t w h a b c d : Int) : Int × Int × Int × Int :=
  if SZ w h then (if NE (cut w h a b c d).1 (cut w h a b c d).2.1 (cut w h a b c d).2.2.1 (cut w h a b c d).2.2.2 then
    (let p := ap (cl t) w h (cut w h a b c d).1 (cut w h a b c d).2.1
     let q := ap (cl t) w h ((cut w h a b c d).2.2.1 - 1) ((cut w h a b c d).2.2.2 - 1)
     (mn p.1 q.1, mn p.2 q.2, mx p.1 q.1 + 1, mx p.2 q.2 + 1)) else (0, 0, 0, 0)) else (0, 0, 0, 0)
/-- The image of a pixel is one of the image. -/
theorem ap_in {t : Nat} (ht : t < 8) {w h x y : Int} (hi : IN w h x y) : IN (if odd t then h else w) (if odd t then w else h) (ap t w h x y).1 (ap t w h x y).2 := by
  unfold IN at *
  rcases lt8 ht with rfl | rfl | rfl | rfl | rfl | rfl | rfl | rfl <;> simp [ap, odd] <;> omega
theorem in_w {w h x y : Int} (hi : IN w h x y) : wrap64 (x + 1) = x + 1 ∧ wrap64 (y + 1) = y + 1 := by
  unfold IN at hi
  constructor <;> (unfold wrap64; omega)
theorem mx_w {a b w : Int} (h1 : 0 ≤ a ∧ a < w) (h2 : 0 ≤ b ∧ b < w) (hw : w ≤ 16384) : wrap64 (mx a b + 1) = mx a b + 1 := by
  have := mx_spec a b
  unfold wrap64; omega
theorem ApplyRect_eq (t w h a b c d : Int) : ∀ k, 2 ≤ k → transform_ApplyRect.f k t w h a b c d = some (APR t w h a b c d) := by
  intro k hk
  simp only [transform_ApplyRect.f, inside_eq, isc_eq, empty_eq, normal_eq, Option.bind_some, decide_eq_true_eq, APR]
  by_cases hs : SZ w h
  · simp only [hs, if_true]
    show (if ¬ NE (cut w h a b c d).1 (cut w h a b c d).2.1 (cut w h a b c d).2.2.1 (cut w h a b c d).2.2.2 then _ else ((transform_apply.f k (cl t : Int) w h (cut w h a b c d).1 (cut w h a b c d).2.1).bind fun bt165 => ((transform_apply.f k (cl t : Int) w h (wrap64 ((cut w h a b c d).2.2.1 - 1)) (wrap64 ((cut w h a b c d).2.2.2 - 1))).bind fun bt169 => (some (mn bt165.1 bt169.1, mn bt165.2 bt169.2, wrap64 ((mx bt165.1 bt169.1) + 1), wrap64 ((mx bt165.2 bt169.2) + 1))))) ) = _
    by_cases hn : NE (cut w h a b c d).1 (cut w h a b c d).2.1 (cut w h a b c d).2.2.1 (cut w h a b c d).2.2.2
    · obtain ⟨i1, i2⟩ := cut_in hs hn
      have o1 := ap_in (cl_lt t) i1
      have o2 := ap_in (cl_lt t) i2
      have w1 : wrap64 ((cut w h a b c d).2.2.1 - 1) = (cut w h a b c d).2.2.1 - 1 := by unfold IN at i2; unfold wrap64; omega
      have w2 : wrap64 ((cut w h a b c d).2.2.2 - 1) = (cut w h a b c d).2.2.2 - 1 := by unfold IN at i2; unfold wrap64; omega
      rw [if_neg (not_not_intro hn), if_pos hn, w1, w2, apply_eq (cl_lt t) i1 k (by omega), apply_eq (cl_lt t) i2 k (by omega)]
      simp only [Option.bind_some]
      rw [mx_w ⟨o1.2.1, o1.2.2.1⟩ ⟨o2.2.1, o2.2.2.1⟩ o1.1.2.1, mx_w ⟨o1.2.2.2.1, o1.2.2.2.2⟩ ⟨o2.2.2.2.1, o2.2.2.2.2⟩ o1.1.2.2.2]
    · rw [if_pos hn, if_neg hn]
  · simp only [hs, if_false]
theorem rApplyRect_eq (t w h a b c d : Int) : ∀ k, 6 ≤ k → compositorref07_ApplyRect.f k t w h a b c d = some (APR t w h a b c d) := by
  intro k hk
  simp only [compositorref07_ApplyRect.f, sized_eq, risc_eq, rempty_eq, clean_eq, Option.bind_some, decide_eq_true_eq, APR]
  by_cases hs : SZ w h
  · simp only [hs, if_true]
    show (if ¬ NE (cut w h a b c d).1 (cut w h a b c d).2.1 (cut w h a b c d).2.2.1 (cut w h a b c d).2.2.2 then _ else ((compositorref07_place.f k (cl t : Int) w h (cut w h a b c d).1 (cut w h a b c d).2.1).bind fun bt165 => ((compositorref07_place.f k (cl t : Int) w h (wrap64 ((cut w h a b c d).2.2.1 - 1)) (wrap64 ((cut w h a b c d).2.2.2 - 1))).bind fun bt169 => (some (mn bt165.1 bt169.1, mn bt165.2 bt169.2, wrap64 ((mx bt165.1 bt169.1) + 1), wrap64 ((mx bt165.2 bt169.2) + 1))))) ) = _
    by_cases hn : NE (cut w h a b c d).1 (cut w h a b c d).2.1 (cut w h a b c d).2.2.1 (cut w h a b c d).2.2.2
    · obtain ⟨i1, i2⟩ := cut_in hs hn
      have o1 := ap_in (cl_lt t) i1
      have o2 := ap_in (cl_lt t) i2
      have w1 : wrap64 ((cut w h a b c d).2.2.1 - 1) = (cut w h a b c d).2.2.1 - 1 := by unfold IN at i2; unfold wrap64; omega
      have w2 : wrap64 ((cut w h a b c d).2.2.2 - 1) = (cut w h a b c d).2.2.2 - 1 := by unfold IN at i2; unfold wrap64; omega
      rw [if_neg (not_not_intro hn), if_pos hn, w1, w2, place_eq (cl_lt t) i1 k (by omega), place_eq (cl_lt t) i2 k (by omega)]
      simp only [Option.bind_some]
      rw [mx_w ⟨o1.2.1, o1.2.2.1⟩ ⟨o2.2.1, o2.2.2.1⟩ o1.1.2.1, mx_w ⟨o1.2.2.2.1, o1.2.2.2.2⟩ ⟨o2.2.2.2.1, o2.2.2.2.2⟩ o1.1.2.2.2]
    · rw [if_pos hn, if_neg hn]
  · simp only [hs, if_false]
theorem ite_fst {P : Prop} [Decidable P] (w h : Int) : (if P then (h, w) else (w, h)).1 = if P then h else w := by split <;> rfl
theorem ite_snd {P : Prop} [Decidable P] (w h : Int) : (if P then (h, w) else (w, h)).2 = if P then w else h := by split <;> rfl
/-- An image of at most 100 by 100 pixels, and a pixel of it. -/
def INL (w h x y : Int) : Prop := 1 ≤ w ∧ w ≤ 100 ∧ 1 ≤ h ∧ h ≤ 100 ∧ 0 ≤ x ∧ x < w ∧ 0 ≤ y ∧ y < h
noncomputable instance (w h x y : Int) : Decidable (INL w h x y) := Classical.propDecidable _
theorem linside_eq (w h x y a b c d : Int) : compositorlaw07_inside.f w h x y a b c d = some (decide (INL w h x y)) := by
  unfold compositorlaw07_inside.f
  repeat' split
  all_goals (refine congrArg some (Bool.eq_iff_iff.mpr ?_); simp only [decide_eq_true_eq, Bool.false_eq_true, false_iff]; unfold INL; omega)
theorem inl_in {w h x y : Int} (h1 : INL w h x y) : IN w h x y := by unfold INL at h1; unfold IN; omega
/-- One transform behind another, by its formula. -/
def cmpA (a b : Nat) : Nat := if a < 4 then (if b < 4 then (a + b) % 4 else 4 + (b - a) % 4) else (if b < 4 then 4 + (a + b) % 4 else (8 + b - a) % 4)
theorem cmp_A : ∀ a : Fin 8, ∀ b : Fin 8, cmp a.val b.val = cmpA a.val b.val := by decide +kernel
theorem inv_A : ∀ a : Fin 8, inv a.val = [0, 3, 2, 1, 4, 5, 6, 7].getD a.val 0 := by decide +kernel
theorem ap_comp {a b : Nat} (ha : a < 8) (hb : b < 8) (w h x y : Int) : ap b (if odd a then h else w) (if odd a then w else h) (ap a w h x y).1 (ap a w h x y).2 = ap (cmp a b) w h x y := by
  have e := cmp_A ⟨a, ha⟩ ⟨b, hb⟩
  simp only at e
  rw [e]
  rcases lt8 ha with rfl | rfl | rfl | rfl | rfl | rfl | rfl | rfl <;> rcases lt8 hb with rfl | rfl | rfl | rfl | rfl | rfl | rfl | rfl <;> simp [ap, odd, cmpA] <;> omega
theorem ap_inv {a : Nat} (ha : a < 8) (w h x y : Int) : ap (inv a) (if odd a then h else w) (if odd a then w else h) (ap a w h x y).1 (ap a w h x y).2 = (x, y) := by
  have e := inv_A ⟨a, ha⟩
  simp only at e
  rw [e]
  rcases lt8 ha with rfl | rfl | rfl | rfl | rfl | rfl | rfl | rfl <;> simp [ap, odd] <;> omega
theorem TransformComposes (x0 : Int) (x1 : Int) (x2 : S34) (ok0 : (Lit.int .i64 x0).wf = true) (ok1 : (Lit.int .i64 x1).wf = true) (ok2 : ((Lit.int .i64 x2.f0).wf = true) ∧ ((Lit.int .i64 x2.f1).wf = true) ∧ (((Lit.int .i64 x2.f2.f0).wf = true) ∧ ((Lit.int .i64 x2.f2.f1).wf = true)) ∧ (((Lit.int .i64 x2.f3.f0).wf = true) ∧ ((Lit.int .i64 x2.f3.f1).wf = true) ∧ ((Lit.int .i64 x2.f3.f2).wf = true) ∧ ((Lit.int .i64 x2.f3.f3).wf = true))) :
    ∃ k, compositorlaw07_TransformComposes.f k x0 x1 x2.f0 x2.f1 x2.f2.f0 x2.f2.f1 x2.f3.f0 x2.f3.f1 x2.f3.f2 x2.f3.f3 = some true := by
  refine ⟨9, ?_⟩
  clear ok0 ok1 ok2
  generalize x2.f0 = w
  generalize x2.f1 = h
  generalize x2.f2.f0 = x
  generalize x2.f2.f1 = y
  simp only [compositorlaw07_TransformComposes.f, linside_eq, Option.bind_some, decide_eq_true_eq]
  by_cases hi : INL w h x y
  · have hin := inl_in hi
    have hp := ap_in (cl_lt x0) hin
    have hc := ap_comp (cl_lt x0) (cl_lt x1) w h x y
    have hv := ap_inv (cl_lt x0) w h x y
    rw [if_pos hi]
    simp only [size_eq, Apply_eq _ _ _ _ _ 9 (by omega), Option.bind_some, AP_in hin, ite_fst, ite_snd]
    generalize (if odd (cl x0) then h else w) = w' at *
    generalize (if odd (cl x0) then w else h) = h' at *
    generalize (ap (cl x0) w h x y) = p at *
    have hb := hp.2
    rw [if_neg (by omega), if_neg (by omega), if_neg (by omega), decide_eq_false (by omega)]
    simp only [compositorlaw07_TransformComposes.j0, Apply_eq _ _ _ _ _ 8 (by omega), compose_eq, invert_eq, Option.bind_some, AP_in hp, AP_in hin, Bool.false_eq_true, if_false]
    have e1 : cl ((cmp (cl x0) (cl x1) : Nat) : Int) = cmp (cl x0) (cl x1) := cl_idem (cmp_nn _ (cl_lt x0) _ (cl_lt x1)).2
    have e2 : cl ((inv (cl x0) : Nat) : Int) = inv (cl x0) := cl_idem (inv_lt _ (cl_lt x0))
    rw [e1, e2, hc, hv]
    simp only [beq_self_eq_true, Bool.and_self, if_true, example_holds 8 (by omega), Option.bind_some]
  · rw [if_neg hi]
    simp only [example_holds 9 (by omega), Option.bind_some]

end Go.Proofs.YtpihfglghcoojaaDoor.Pure
