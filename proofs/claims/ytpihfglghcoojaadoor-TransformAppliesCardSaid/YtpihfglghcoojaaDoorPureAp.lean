/-
  Plain laws (numbers and lists) for the statement Ap: no program in sight.
-/
import Derived.Test.YtpihfglghcoojaaDoorAllx10
import Derived.Test.YtpihfglghcoojaaDoorAllx11
import Derived.Test.YtpihfglghcoojaaDoorAllx14
import Derived.Test.YtpihfglghcoojaaDoorAllx17
import Derived.Test.YtpihfglghcoojaaDoorAllx18
import Derived.Test.YtpihfglghcoojaaDoorAllx21
import Derived.Test.YtpihfglghcoojaaDoorAllx5
import Derived.Test.YtpihfglghcoojaaDoorAllx6
import Derived.Test.YtpihfglghcoojaaDoorAllx9
import Derived.Test.YtpihfglghcoojaaDoorPureBase
import Derived.Test.YtpihfglghcoojaaDoorPureRect
namespace Go.Proofs.YtpihfglghcoojaaDoor.Pure
open Go.RowKit Go.Proofs.YtpihfglghcoojaaDoorW.PrintWords Go.Proofs.YtpihfglghcoojaaDoorW.PrintMore Go.Proofs.YtpihfglghcoojaaDoor.All
set_option linter.unusedVariables false
set_option linter.unusedSimpArgs false
theorem bind_eta (o : Option (Int × Int)) : (o.bind fun p => some (p.1, p.2)) = o := by cases o <;> rfl
/-- Where a pixel goes. -/
def ap (t : Nat) (w h x y : Int) : Int × Int :=
  match t with
  | 0 => (x, y)
  | 1 => (y, w - 1 - x)
  | 2 => (w - 1 - x, h - 1 - y)
  | 3 => (h - 1 - y, x)
  | 4 => (w - 1 - x, y)
  | 5 => (y, x)
  | 6 => (x, h - 1 - y)
  | _ => (h - 1 - y, w - 1 - x)
/-- A pixel of an image. -/
def IN (w h x y : Int) : Prop := (1 ≤ w ∧ w ≤ 16384 ∧ 1 ≤ h ∧ h ≤ 16384) ∧ 0 ≤ x ∧ x < w ∧ 0 ≤ y ∧ y < h
noncomputable instance (w h x y : Int) : Decidable (IN w h x y) := Classical.propDecidable _
theorem lt8 {t : Nat} (h : t < 8) : t = 0 ∨ t = 1 ∨ t = 2 ∨ t = 3 ∨ t = 4 ∨ t = 5 ∨ t = 6 ∨ t = 7 := by omega
theorem ap_w {w h x y : Int} (hi : IN w h x y) : wrap64 (w - 1) = w - 1 ∧ wrap64 (h - 1) = h - 1 ∧ wrap64 (w - 1 - x) = w - 1 - x ∧ wrap64 (h - 1 - y) = h - 1 - y ∧ wrap64 (w - 1 - (w - 1 - x)) = x ∧ wrap64 (w - 1 - y) = w - 1 - y ∧ wrap64 (h - 1 - x) = h - 1 - x := by
  unfold IN at hi
  refine ⟨?_, ?_, ?_, ?_, ?_, ?_, ?_⟩ <;> (unfold wrap64; omega)
theorem apply_eq {t : Nat} (ht : t < 8) {w h x y : Int} (hi : IN w h x y) : ∀ k, 1 ≤ k → transform_apply.f k t w h x y = some (ap t w h x y) := by
  intro k hk
  obtain ⟨k, rfl⟩ : ∃ j, k = j + 1 := ⟨k - 1, by omega⟩
  obtain ⟨e1, e2, e3, e4, e5, e6, e7⟩ := ap_w hi
  rcases lt8 ht with rfl | rfl | rfl | rfl | rfl | rfl | rfl | rfl <;> simp [transform_apply.f, transform_apply.j0, ap, e1, e2, e3, e4, e5, e6, e7]
theorem place_eq {t : Nat} (ht : t < 8) {w h x y : Int} (hi : IN w h x y) : ∀ k, 6 ≤ k → compositorref07_place.f k t w h x y = some (ap t w h x y) := by
  intro k hk
  obtain ⟨k, rfl⟩ : ∃ j, k = j + 6 := ⟨k - 6, by omega⟩
  obtain ⟨e1, e2, e3, e4, e5, e6, e7⟩ := ap_w hi
  have f5 : wrap64 (h - 1 - (h - 1 - y)) = y := by unfold IN at hi; unfold wrap64; omega
  have o1 : wrap64 1 = 1 := by unfold wrap64; omega
  have o2 : wrap64 2 = 2 := by unfold wrap64; omega
  have o3 : wrap64 3 = 3 := by unfold wrap64; omega
  rcases lt8 ht with rfl | rfl | rfl | rfl | rfl | rfl | rfl | rfl <;> simp [compositorref07_place.f, compositorref07_place.j0, compositorref07_place.l0, compositorref07_flip.f, compositorref07_turn.f, ap, e1, e2, e3, e4, e5, e6, e7, f5, o1, o2, o3]
def SZ (w h : Int) : Prop := 1 ≤ w ∧ w ≤ 16384 ∧ 1 ≤ h ∧ h ≤ 16384
noncomputable instance (w h : Int) : Decidable (SZ w h) := Classical.propDecidable _
theorem inside_eq (w h : Int) : transform_inside.f w h = some (decide (SZ w h)) := by
  unfold transform_inside.f
  repeat' split
  all_goals (refine congrArg some (Bool.eq_iff_iff.mpr ?_); simp only [decide_eq_true_eq, Bool.false_eq_true, false_iff]; unfold SZ; omega)
theorem sized_eq (w h : Int) : compositorref07_sized.f w h = some (decide (SZ w h)) := by
  unfold compositorref07_sized.f
  repeat' split
  all_goals (refine congrArg some (Bool.eq_iff_iff.mpr ?_); simp only [decide_eq_true_eq, Bool.false_eq_true, false_iff]; unfold SZ; omega)
/-- Where a point goes, if it is one of the image. -/
noncomputable def AP (a w h x y : Int) : Int × Int := if IN w h x y then ap (cl a) w h x y else (0, 0)
theorem AP_in {a w h x y : Int} (h1 : IN w h x y) : AP a w h x y = ap (cl a) w h x y := if_pos h1
theorem Apply_eq (a w h x y : Int) : ∀ k, 2 ≤ k → transform_Apply.f k a w h x y = some (AP a w h x y) := by
  intro k hk
  obtain ⟨k, rfl⟩ : ∃ j, k = j + 2 := ⟨k - 2, by omega⟩
  have j1 : ∀ b, transform_Apply.j0 (k + 2) a w h b x y = if b = true then some (0, 0) else (transform_apply.f (k + 1) (cl a) w h x y) := by
    intro b
    simp only [transform_Apply.j0, normal_eq, Option.bind_some]
    cases b <;> simp [bind_eta]
  simp only [transform_Apply.f, inside_eq, Option.bind_some, decide_eq_true_eq, j1, if_true]
  by_cases hi : IN w h x y
  · have hs : SZ w h := hi.1
    have hb := hi.2
    rw [AP_in hi, if_pos hs, if_neg (by omega), if_neg (by omega), if_neg (by omega), if_neg (by omega), apply_eq (cl_lt a) hi _ (by omega)]
  · unfold AP
    rw [if_neg hi]
    by_cases hs : SZ w h
    · rw [if_pos hs]
      repeat' split
      all_goals first | rfl | (exfalso; apply hi; refine ⟨hs, ?_⟩; omega)
    · rw [if_neg hs]
theorem rApply_eq (a w h x y : Int) : ∀ k, 8 ≤ k → compositorref07_Apply.f k a w h x y = some (AP a w h x y) := by
  intro k hk
  obtain ⟨k, rfl⟩ : ∃ j, k = j + 7 := ⟨k - 7, by omega⟩
  have j1 : ∀ b, compositorref07_Apply.j0 (k + 7) a w h b x y = if b = true then some (0, 0) else (compositorref07_place.f (k + 6) (cl a) w h x y) := by
    intro b
    simp only [compositorref07_Apply.j0, clean_eq, Option.bind_some]
    cases b <;> simp [bind_eta]
  simp only [compositorref07_Apply.f, sized_eq, Option.bind_some, decide_eq_true_eq, j1, if_true]
  by_cases hi : IN w h x y
  · have hs : SZ w h := hi.1
    have hb := hi.2
    rw [AP_in hi, if_pos hs, if_neg (by omega), if_neg (by omega), if_neg (by omega), if_neg (by omega), place_eq (cl_lt a) hi _ (by omega)]
  · unfold AP
    rw [if_neg hi]
    by_cases hs : SZ w h
    · rw [if_pos hs]
      repeat' split
      all_goals first | rfl | (exfalso; apply hi; refine ⟨hs, ?_⟩; omega)
    · rw [if_neg hs]
theorem sz_ne {w h : Int} (hs : SZ w h) : NE 0 0 w h := by unfold SZ at hs; unfold NE; omega
/-- The part of a rectangle in an image. -/
noncomputable def cut (w h a b c d : Int) : Int × Int × Int × Int := isc a b c d 0 0 w h
theorem cut_in {w h a b c d : Int} (hs : SZ w h) (hn : NE (cut w h a b c d).1 (cut w h a b c d).2.1 (cut w h a b c d).2.2.1 (cut w h a b c d).2.2.2) :
    IN w h (cut w h a b c d).1 (cut w h a b c d).2.1 ∧ IN w h ((cut w h a b c d).2.2.1 - 1) ((cut w h a b c d).2.2.2 - 1) := by
  have hne := sz_ne hs
  unfold cut isc at *
  by_cases h1 : NE a b c d ∧ NE 0 0 w h
  · rw [if_pos h1] at *
    unfold can at *
    by_cases h2 : NE (mx a 0) (mx b 0) (mn c w) (mn d h)
    · rw [if_pos h2] at *
      have m1 := mx_spec a 0; have m2 := mx_spec b 0; have m3 := mn_spec c w; have m4 := mn_spec d h
      simp only at *
      unfold NE at h2
      unfold SZ at hs
      refine ⟨⟨hs, ?_⟩, ⟨hs, ?_⟩⟩ <;> omega
    · rw [if_neg h2] at hn
      exact absurd hn not_ne0
  · rw [if_neg h1] at hn
    exact absurd hn not_ne0
/-- Where a rectangle goes. -/
noncomputable def APR (t w h a b c d : Int) : Int × Int × Int × Int :=
  if SZ w h then (if NE (cut w h a b c d).1 (cut w h a b c d).2.1 (cut w h a b c d).2.2.1 (cut w h a b c d).2.2.2 then
    (let p := ap (cl t) w h (cut w h a b c d).1 (cut w h a b c d).2.1
     let q := ap (cl t) w h ((cut w h a b c d).2.2.1 - 1) ((cut w h a b c d).2.2.2 - 1)
     (mn p.1 q.1, mn p.2 q.2, mx p.1 q.1 + 1, mx p.2 q.2 + 1)) else (0, 0, 0, 0)) else (0, 0, 0, 0)
/-- The image of a pixel is one of the image. -/
theorem ap_in {t : Nat} (ht : t < 8) {w h x y : Int} (hi : IN w h x y) : IN (if odd t then h else w) (if odd t then w else h) (ap t w h x y).1 (ap t w h x y).2 := by
  unfold IN at *
  rcases lt8 ht with rfl | rfl | rfl | rfl | rfl | rfl | rfl | rfl <;> simp [ap, odd] <;> omega
theorem in_w {w h x y : Int} (hi : IN w h x y) : wrap64 (x + 1) = x + 1 ∧ wrap64 (y + 1) = y + 1 := by
  unfold IN at hi
  constructor <;> (unfold wrap64; omega)
theorem mx_w {a b w : Int} (h1 : 0 ≤ a ∧ a < w) (h2 : 0 ≤ b ∧ b < w) (hw : w ≤ 16384) : wrap64 (mx a b + 1) = mx a b + 1 := by
  have := mx_spec a b
  unfold wrap64; omega
theorem ApplyRect_eq (t w h a b c d : Int) : ∀ k, 2 ≤ k → transform_ApplyRect.f k t w h a b c d = some (APR t w h a b c d) := by
  intro k hk
  simp only [transform_ApplyRect.f, inside_eq, isc_eq, empty_eq, normal_eq, Option.bind_some, decide_eq_true_eq, APR]
  by_cases hs : SZ w h
  · simp only [hs, if_true]
    show (if ¬ NE (cut w h a b c d).1 (cut w h a b c d).2.1 (cut w h a b c d).2.2.1 (cut w h a b c d).2.2.2 then _ else ((transform_apply.f k (cl t : Int) w h (cut w h a b c d).1 (cut w h a b c d).2.1).bind fun bt165 => ((transform_apply.f k (cl t : Int) w h (wrap64 ((cut w h a b c d).2.2.1 - 1)) (wrap64 ((cut w h a b c d).2.2.2 - 1))).bind fun bt169 => (some (mn bt165.1 bt169.1, mn bt165.2 bt169.2, wrap64 ((mx bt165.1 bt169.1) + 1), wrap64 ((mx bt165.2 bt169.2) + 1))))) ) = _
    by_cases hn : NE (cut w h a b c d).1 (cut w h a b c d).2.1 (cut w h a b c d).2.2.1 (cut w h a b c d).2.2.2
    · obtain ⟨i1, i2⟩ := cut_in hs hn
      have o1 := ap_in (cl_lt t) i1
      have o2 := ap_in (cl_lt t) i2
      have w1 : wrap64 ((cut w h a b c d).2.2.1 - 1) = (cut w h a b c d).2.2.1 - 1 := by unfold IN at i2; unfold wrap64; omega
      have w2 : wrap64 ((cut w h a b c d).2.2.2 - 1) = (cut w h a b c d).2.2.2 - 1 := by unfold IN at i2; unfold wrap64; omega
      rw [if_neg (not_not_intro hn), if_pos hn, w1, w2, apply_eq (cl_lt t) i1 k (by omega), apply_eq (cl_lt t) i2 k (by omega)]
      simp only [Option.bind_some]
      rw [mx_w ⟨o1.2.1, o1.2.2.1⟩ ⟨o2.2.1, o2.2.2.1⟩ o1.1.2.1, mx_w ⟨o1.2.2.2.1, o1.2.2.2.2⟩ ⟨o2.2.2.2.1, o2.2.2.2.2⟩ o1.1.2.2.2]
    · rw [if_pos hn, if_neg hn]
  · simp only [hs, if_false]
theorem rApplyRect_eq (t w h a b c d : Int) : ∀ k, 6 ≤ k → compositorref07_ApplyRect.f k t w h a b c d = some (APR t w h a b c d) := by
  intro k hk
  simp only [compositorref07_ApplyRect.f, sized_eq, risc_eq, rempty_eq, clean_eq, Option.bind_some, decide_eq_true_eq, APR]
  by_cases hs : SZ w h
  · simp only [hs, if_true]
    show (if ¬ NE (cut w h a b c d).1 (cut w h a b c d).2.1 (cut w h a b c d).2.2.1 (cut w h a b c d).2.2.2 then _ else ((compositorref07_place.f k (cl t : Int) w h (cut w h a b c d).1 (cut w h a b c d).2.1).bind fun bt165 => ((compositorref07_place.f k (cl t : Int) w h (wrap64 ((cut w h a b c d).2.2.1 - 1)) (wrap64 ((cut w h a b c d).2.2.2 - 1))).bind fun bt169 => (some (mn bt165.1 bt169.1, mn bt165.2 bt169.2, wrap64 ((mx bt165.1 bt169.1) + 1), wrap64 ((mx bt165.2 bt169.2) + 1))))) ) = _
    by_cases hn : NE (cut w h a b c d).1 (cut w h a b c d).2.1 (cut w h a b c d).2.2.1 (cut w h a b c d).2.2.2
    · obtain ⟨i1, i2⟩ := cut_in hs hn
      have o1 := ap_in (cl_lt t) i1
      have o2 := ap_in (cl_lt t) i2
      have w1 : wrap64 ((cut w h a b c d).2.2.1 - 1) = (cut w h a b c d).2.2.1 - 1 := by unfold IN at i2; unfold wrap64; omega
      have w2 : wrap64 ((cut w h a b c d).2.2.2 - 1) = (cut w h a b c d).2.2.2 - 1 := by unfold IN at i2; unfold wrap64; omega
      rw [if_neg (not_not_intro hn), if_pos hn, w1, w2, place_eq (cl_lt t) i1 k (by omega), place_eq (cl_lt t) i2 k (by omega)]
      simp only [Option.bind_some]
      rw [mx_w ⟨o1.2.1, o1.2.2.1⟩ ⟨o2.2.1, o2.2.2.1⟩ o1.1.2.1, mx_w ⟨o1.2.2.2.1, o1.2.2.2.2⟩ ⟨o2.2.2.2.1, o2.2.2.2.2⟩ o1.1.2.2.2]
    · rw [if_pos hn, if_neg hn]
  · simp only [hs, if_false]

end Go.Proofs.YtpihfglghcoojaaDoor.Pure
