/-
  Plain laws (numbers and lists) for the statement TransformImages: no program in sight.
-/
import Derived.Test.YtpihfglghcoojaaDoorAllx0
import Derived.Test.YtpihfglghcoojaaDoorAllx10
import Derived.Test.YtpihfglghcoojaaDoorAllx12
import Derived.Test.YtpihfglghcoojaaDoorAllx13
import Derived.Test.YtpihfglghcoojaaDoorAllx15
import Derived.Test.YtpihfglghcoojaaDoorAllx30
import Derived.Test.YtpihfglghcoojaaDoorAllx31
import Derived.Test.YtpihfglghcoojaaDoorAllx32
import Derived.Test.YtpihfglghcoojaaDoorAllx33
import Derived.Test.YtpihfglghcoojaaDoorAllx37
import Derived.Test.YtpihfglghcoojaaDoorAllx4
import Derived.Test.YtpihfglghcoojaaDoorAllx5
import Derived.Test.YtpihfglghcoojaaDoorAllx8
import Derived.Test.YtpihfglghcoojaaDoorAllx9
import Derived.Test.YtpihfglghcoojaaDoorAllx90
namespace Go.Proofs.YtpihfglghcoojaaDoor.Pure
open Go.RowKit Go.Proofs.YtpihfglghcoojaaDoorW.PrintWords Go.Proofs.YtpihfglghcoojaaDoorW.PrintMore Go.Proofs.YtpihfglghcoojaaDoor.All
set_option linter.unusedVariables false
set_option linter.unusedSimpArgs false
theorem i64 {x : Int} (h : (Lit.int .i64 x).wf = true) : -9223372036854775808 ≤ x ∧ x ≤ 9223372036854775807 := by
  simpa [Lit.wf, IntKind.min, IntKind.max, IntKind.signed, IntKind.bits] using h
theorem w64 {x : Int} (h : -9223372036854775808 ≤ x) (h' : x ≤ 9223372036854775807) : wrap64 x = x := by unfold wrap64; omega
/-- What holds with some fuel holds with more. -/
theorem fuel {α : Type} {f : Nat → Option α} (hm : ∀ k r, f k = some r → f (k + 1) = some r) {K : Nat} {r : α} (h : f K = some r) : ∀ k, K ≤ k → f k = some r := by
  intro k hk
  obtain ⟨j, rfl⟩ : ∃ j, k = K + j := ⟨k - K, by omega⟩
  clear hk
  induction j with
  | zero => exact h
  | succ j ih => exact hm _ _ ih
theorem example_holds : ∀ k, 8 ≤ k → compositorlaw07_exampleHolds.f k = some true :=
  fuel (f := fun k => compositorlaw07_exampleHolds.f k) (fun k r h => compositorlaw07_exampleHolds.mono k r h) (by decide +kernel)
/-- The transform that a number stands for. -/
def cl (a : Int) : Nat := if 0 ≤ a ∧ a ≤ 7 then a.toNat else 0
theorem cl_lt (a : Int) : cl a < 8 := by unfold cl; split <;> omega
theorem cl_idem {n : Nat} (h : n < 8) : cl (n : Int) = n := by unfold cl; rw [if_pos ⟨by omega, by omega⟩]; simp
theorem valid_eq' (a : Int) : transform_Valid.f a = some (decide (0 ≤ a ∧ a ≤ 7)) := by
  unfold transform_Valid.f
  split <;> (refine congrArg some (Bool.eq_iff_iff.mpr ?_); simp only [decide_eq_true_eq, Bool.false_eq_true, false_iff]; omega)
theorem normal_eq (a : Int) : transform_normal.f a = some (cl a : Int) := by
  simp only [transform_normal.f, valid_eq', Option.bind_some, cl, decide_eq_true_eq]
  split
  · rename_i h; rw [Int.toNat_of_nonneg h.1]
  · rfl
/-- One transform behind another. -/
def cmp (x y : Nat) : Nat := (Go.Proofs.YtpihfglghcoojaaDoorHand.prods.getD (8 * x + y) 0).toNat
theorem cmp_nn : ∀ x, x < 8 → ∀ y, y < 8 → Go.Proofs.YtpihfglghcoojaaDoorHand.prods.getD (8 * x + y) 0 = (cmp x y : Int) ∧ cmp x y < 8 := by decide
theorem compose_eq (a b : Int) : transform_Compose.f a b = some (cmp (cl a) (cl b) : Int) := by
  simp only [transform_Compose.f, normal_eq, Option.bind_some]
  have e : (8 * (cl a : Int) + (cl b : Int)).toNat = 8 * cl a + cl b := by omega
  rw [e, (cmp_nn _ (cl_lt a) _ (cl_lt b)).1]
def inv (x : Nat) : Nat := transform_Invert.inv x
theorem inv_lt : ∀ x, x < 8 → inv x < 8 := by decide
theorem invert_eq (a : Int) : transform_Invert.f a = some (inv (cl a) : Int) := by
  simp only [transform_Invert.f, normal_eq, Option.bind_some, Int.toNat_natCast, inv]
/-- The size of the transformed image. -/
def odd (x : Nat) : Prop := x % 2 = 1
instance (x : Nat) : Decidable (odd x) := inferInstanceAs (Decidable (x % 2 = 1))
theorem tmod_odd (x : Nat) : (Int.tmod (x : Int) 2 = 1) ↔ odd x := by
  unfold odd
  rw [Int.tmod_eq_emod_of_nonneg (by omega)]
  omega
theorem size_eq (a w h : Int) : transform_Size.f a w h = some (if odd (cl a) then (h, w) else (w, h)) := by
  simp only [transform_Size.f, normal_eq, Option.bind_some, tmod_odd]
  split <;> rfl
theorem mx_spec (a b : Int) : a ≤ mx a b ∧ b ≤ mx a b ∧ (mx a b = a ∨ mx a b = b) := by unfold mx; split <;> omega
theorem mn_spec (a b : Int) : mn a b ≤ a ∧ mn a b ≤ b ∧ (mn a b = a ∨ mn a b = b) := by unfold mn; split <;> omega
/-- A rectangle with a pixel. -/
def NE (a b c d : Int) : Prop := -16384 ≤ a ∧ a ≤ 16384 ∧ -16384 ≤ b ∧ b ≤ 16384 ∧ -16384 ≤ c ∧ c ≤ 16384 ∧ -16384 ≤ d ∧ d ≤ 16384 ∧ a < c ∧ b < d
noncomputable instance (a b c d : Int) : Decidable (NE a b c d) := Classical.propDecidable _
def HAS (a b c d x y : Int) : Prop := NE a b c d ∧ a ≤ x ∧ x < c ∧ b ≤ y ∧ y < d
noncomputable instance (a b c d x y : Int) : Decidable (HAS a b c d x y) := Classical.propDecidable _
def WIN (a b c d a' b' c' d' : Int) : Prop := NE a b c d → NE a' b' c' d' ∧ a' ≤ a ∧ b' ≤ b ∧ c ≤ c' ∧ d ≤ d'
noncomputable instance (a b c d a' b' c' d' : Int) : Decidable (WIN a b c d a' b' c' d') := Classical.propDecidable _
def VA (a b c d : Int) : Prop := -16384 ≤ a ∧ a ≤ 16384 ∧ -16384 ≤ b ∧ b ≤ 16384 ∧ -16384 ≤ c ∧ c ≤ 16384 ∧ -16384 ≤ d ∧ d ≤ 16384
noncomputable instance (a b c d : Int) : Decidable (VA a b c d) := Classical.propDecidable _
theorem not_ne0 : ¬ NE 0 0 0 0 := by unfold NE; omega
theorem v1 (a : Int) : rect_valid.f a = some (decide (-16384 ≤ a ∧ a ≤ 16384)) := by
  unfold rect_valid.f; split <;> simp <;> omega
theorem valid_eq (a b c d : Int) : rect_Valid.f a b c d = some (decide (VA a b c d)) := by
  simp only [rect_Valid.f, v1, Option.bind_some, decide_eq_true_eq]
  repeat' split
  all_goals (refine congrArg some (Bool.eq_iff_iff.mpr ?_); simp only [decide_eq_true_eq, Bool.false_eq_true, iff_true, iff_false, false_iff, true_iff] at *; (try simp only [VA, NE, HAS, WIN] at *); first | omega | (constructor <;> (intro _; omega)) | (intro _; omega) | skip)
theorem empty_eq (a b c d : Int) : rect_Empty.f a b c d = some (decide (¬ NE a b c d)) := by
  simp only [rect_Empty.f, valid_eq, Option.bind_some, decide_eq_true_eq]
  repeat' split
  all_goals (refine congrArg some (Bool.eq_iff_iff.mpr ?_); simp only [decide_eq_true_eq, Bool.false_eq_true, iff_true, iff_false, false_iff, true_iff] at *; (try simp only [VA, NE, HAS, WIN] at *); first | omega | (constructor <;> (intro _; omega)) | (intro _; omega) | skip)
/-- The canonical form. -/
noncomputable def can (a b c d : Int) : Int × Int × Int × Int := if NE a b c d then (a, b, c, d) else (0, 0, 0, 0)
theorem can_eq (a b c d : Int) : rect_Canonical.f a b c d = some (can a b c d) := by
  simp only [rect_Canonical.f, empty_eq, Option.bind_some, decide_eq_true_eq, can]
  by_cases h : NE a b c d <;> simp [h]
/-- The common pixels. -/
noncomputable def isc (a b c d a' b' c' d' : Int) : Int × Int × Int × Int :=
  if NE a b c d ∧ NE a' b' c' d' then can (mx a a') (mx b b') (mn c c') (mn d d') else (0, 0, 0, 0)
theorem isc_eq (a b c d a' b' c' d' : Int) : rect_Intersect.f a b c d a' b' c' d' = some (isc a b c d a' b' c' d') := by
  simp only [rect_Intersect.f, empty_eq, can_eq, Option.bind_some, decide_eq_true_eq, isc]
  by_cases h : NE a b c d <;> by_cases h' : NE a' b' c' d' <;> simp [h, h']
/-- The number of pixels. -/
noncomputable def ar (a b c d : Int) : Int := if NE a b c d then (c - a) * (d - b) else 0
theorem ar_range {a b c d : Int} (h : NE a b c d) : 0 < (c - a) * (d - b) ∧ (c - a) * (d - b) ≤ 1073741824 := by
  unfold NE at h
  have p : 0 < (c - a) * (d - b) := Int.mul_pos (by omega) (by omega)
  have q : (c - a) * (d - b) ≤ 32768 * 32768 := Int.mul_le_mul (by omega) (by omega) (by omega) (by omega)
  omega
theorem ar_le (a b c d : Int) : 0 ≤ ar a b c d ∧ ar a b c d ≤ 1073741824 := by
  unfold ar
  split
  · rename_i h; have := ar_range h; omega
  · omega
theorem isc_cases (a b c d a' b' c' d' : Int) : ∃ i0 i1 i2 i3, isc a b c d a' b' c' d' = (i0, i1, i2, i3) ∧
    ((¬ NE i0 i1 i2 i3 ∧ i0 = 0 ∧ i1 = 0 ∧ i2 = 0 ∧ i3 = 0 ∧ (NE a b c d → NE a' b' c' d' → ¬ NE (mx a a') (mx b b') (mn c c') (mn d d'))) ∨
     (NE i0 i1 i2 i3 ∧ NE a b c d ∧ NE a' b' c' d' ∧ i0 = mx a a' ∧ i1 = mx b b' ∧ i2 = mn c c' ∧ i3 = mn d d')) := by
  unfold isc
  by_cases h : NE a b c d ∧ NE a' b' c' d'
  · rw [if_pos h]
    unfold can
    by_cases hn : NE (mx a a') (mx b b') (mn c c') (mn d d')
    · rw [if_pos hn]
      exact ⟨_, _, _, _, rfl, .inr ⟨hn, h.1, h.2, rfl, rfl, rfl, rfl⟩⟩
    · rw [if_neg hn]
      exact ⟨_, _, _, _, rfl, .inl ⟨not_ne0, rfl, rfl, rfl, rfl, fun _ _ => hn⟩⟩
  · rw [if_neg h]
    exact ⟨_, _, _, _, rfl, .inl ⟨not_ne0, rfl, rfl, rfl, rfl, fun h1 h2 => absurd ⟨h1, h2⟩ h⟩⟩
theorem has_isc (a b c d a' b' c' d' x y : Int) {i0 i1 i2 i3 : Int} (e : isc a b c d a' b' c' d' = (i0, i1, i2, i3)) : HAS i0 i1 i2 i3 x y ↔ HAS a b c d x y ∧ HAS a' b' c' d' x y := by
  obtain ⟨j0, j1, j2, j3, e', h⟩ := isc_cases a b c d a' b' c' d'
  obtain ⟨rfl, rfl, rfl, rfl⟩ : j0 = i0 ∧ j1 = i1 ∧ j2 = i2 ∧ j3 = i3 := by rw [e] at e'; simp_all
  have m1 := mx_spec a a'
  have m2 := mx_spec b b'
  have m3 := mn_spec c c'
  have m4 := mn_spec d d'
  rcases h with ⟨hn, rfl, rfl, rfl, rfl, h⟩ | ⟨hn, h1, h2, rfl, rfl, rfl, rfl⟩
  · constructor
    · intro h; exact absurd h.1 hn
    · rintro ⟨⟨h1, p⟩, ⟨h2, q⟩⟩
      refine absurd ?_ (h h1 h2)
      unfold NE at h1 h2 ⊢
      omega
  · constructor
    · rintro ⟨_, p⟩
      exact ⟨⟨h1, by omega⟩, ⟨h2, by omega⟩⟩
    · rintro ⟨⟨_, p⟩, ⟨_, q⟩⟩
      exact ⟨hn, by omega⟩
theorem bind_eta (o : Option (Int × Int)) : (o.bind fun p => some (p.1, p.2)) = o := by cases o <;> rfl
/-- Where a pixel goes. -/
def ap (t : Nat) (w h x y : Int) : Int × Int :=
  match t with
  | 0 => (x, y)
  | 1 => (y, w - 1 - x)
  | 2 => (w - 1 - x, h - 1 - y)
  | 3 => (h - 1 - y, x)
  | 4 => (w - 1 - x, y)
  | 5 => (y, x)
  | 6 => (x, h - 1 - y)
  | _ => (h - 1 - y, w - 1 - x)
/-- A pixel of an image. -/
def IN (w h x y : Int) : Prop := (1 ≤ w ∧ w ≤ 16384 ∧ 1 ≤ h ∧ h ≤ 16384) ∧ 0 ≤ x ∧ x < w ∧ 0 ≤ y ∧ y < h
noncomputable instance (w h x y : Int) : Decidable (IN w h x y) := Classical.propDecidable _
theorem lt8 {t : Nat} (h : t < 8) : t = 0 ∨ t = 1 ∨ t = 2 ∨ t = 3 ∨ t = 4 ∨ t = 5 ∨ t = 6 ∨ t = 7 := by omega
theorem ap_w {w h x y : Int} (hi : IN w h x y) : wrap64 (w - 1) = w - 1 ∧ wrap64 (h - 1) = h - 1 ∧ wrap64 (w - 1 - x) = w - 1 - x ∧ wrap64 (h - 1 - y) = h - 1 - y ∧ wrap64 (w - 1 - (w - 1 - x)) = x ∧ wrap64 (w - 1 - y) = w - 1 - y ∧ wrap64 (h - 1 - x) = h - 1 - x := by
  unfold IN at hi
  refine ⟨?_, ?_, ?_, ?_, ?_, ?_, ?_⟩ <;> (unfold wrap64; omega)
theorem apply_eq {t : Nat} (ht : t < 8) {w h x y : Int} (hi : IN w h x y) : ∀ k, 1 ≤ k → transform_apply.f k t w h x y = some (ap t w h x y) := by
  intro k hk
  obtain ⟨k, rfl⟩ : ∃ j, k = j + 1 := ⟨k - 1, by omega⟩
  obtain ⟨e1, e2, e3, e4, e5, e6, e7⟩ := ap_w hi
  rcases lt8 ht with rfl | rfl | rfl | rfl | rfl | rfl | rfl | rfl <;> simp [transform_apply.f, transform_apply.j0, ap, e1, e2, e3, e4, e5, e6, e7]
def SZ (w h : Int) : Prop := 1 ≤ w ∧ w ≤ 16384 ∧ 1 ≤ h ∧ h ≤ 16384
noncomputable instance (w h : Int) : Decidable (SZ w h) := Classical.propDecidable _
theorem inside_eq (w h : Int) : transform_inside.f w h = some (decide (SZ w h)) := by
  unfold transform_inside.f
  repeat' split
  all_goals (refine congrArg some (Bool.eq_iff_iff.mpr ?_); simp only [decide_eq_true_eq, Bool.false_eq_true, false_iff]; unfold SZ; omega)
/-- Where a point goes, if it is one of the image. -/
noncomputable def AP (a w h x y : Int) : Int × Int := if IN w h x y then ap (cl a) w h x y else (0, 0)
theorem AP_in {a w h x y : Int} (h1 : IN w h x y) : AP a w h x y = ap (cl a) w h x y := if_pos h1
theorem sz_ne {w h : Int} (hs : SZ w h) : NE 0 0 w h := by unfold SZ at hs; unfold NE; omega
/-- The part of a rectangle in an image. -/
noncomputable def cut (w h a b c d : Int) : Int × Int × Int × Int := isc a b c d 0 0 w h
theorem cut_in {w h a b c d : Int} (hs : SZ w h) (hn : NE (cut w h a b c d).1 (cut w h a b c d).2.1 (cut w h a b c d).2.2.1 (cut w h a b c d).2.2.2) :
    IN w h (cut w h a b c d).1 (cut w h a b c d).2.1 ∧ IN w h ((cut w h a b c d).2.2.1 - 1) ((cut w h a b c d).2.2.2 - 1) := by
  have hne := sz_ne hs
  unfold cut isc at *
  by_cases h1 : NE a b c d ∧ NE 0 0 w h
  · rw [if_pos h1] at *
    unfold can at *
    by_cases h2 : NE (mx a 0) (mx b 0) (mn c w) (mn d h)
    · rw [if_pos h2] at *
      have m1 := mx_spec a 0; have m2 := mx_spec b 0; have m3 := mn_spec c w; have m4 := mn_spec d h
      simp only at *
      unfold NE at h2
      unfold SZ at hs
      refine ⟨⟨hs, ?_⟩, ⟨hs, ?_⟩⟩ <;> omega
    · rw [if_neg h2] at hn
      exact absurd hn not_ne0
  · rw [if_neg h1] at hn
    exact absurd hn not_ne0
/-- Where a rectangle goes. -/
noncomputable def APR (t w h a b c d : Int) : Int × Int × Int × Int :=
  if SZ w h then (if NE (cut w h a b c d).1 (cut w h a b c d).2.1 (cut w h a b c d).2.2.1 (cut w h a b c d).2.2.2 then
    (let p := ap (cl t) w h (cut w h a b c d).1 (cut w h a b c d).2.1
     let q := ap (cl t) w h ((cut w h a b c d).2.2.1 - 1) ((cut w h a b c d).2.2.2 - 1)
     (mn p.1 q.1, mn p.2 q.2, mx p.1 q.1 + 1, mx p.2 q.2 + 1)) else (0, 0, 0, 0)) else (0, 0, 0, 0)
/-- The image of a pixel is one of the image. -/
theorem ap_in {t : Nat} (ht : t < 8) {w h x y : Int} (hi : IN w h x y) : IN (if odd t then h else w) (if odd t then w else h) (ap t w h x y).1 (ap t w h x y).2 := by
  unfold IN at *
  rcases lt8 ht with rfl | rfl | rfl | rfl | rfl | rfl | rfl | rfl <;> simp [ap, odd] <;> omega
theorem in_w {w h x y : Int} (hi : IN w h x y) : wrap64 (x + 1) = x + 1 ∧ wrap64 (y + 1) = y + 1 := by
  unfold IN at hi
  constructor <;> (unfold wrap64; omega)
theorem mx_w {a b w : Int} (h1 : 0 ≤ a ∧ a < w) (h2 : 0 ≤ b ∧ b < w) (hw : w ≤ 16384) : wrap64 (mx a b + 1) = mx a b + 1 := by
  have := mx_spec a b
  unfold wrap64; omega
theorem ite_fst {P : Prop} [Decidable P] (w h : Int) : (if P then (h, w) else (w, h)).1 = if P then h else w := by split <;> rfl
theorem ite_snd {P : Prop} [Decidable P] (w h : Int) : (if P then (h, w) else (w, h)).2 = if P then w else h := by split <;> rfl
/-- A valid pixel. -/
def PV (p : S58) : Prop := p.f0 ≤ p.f3 ∧ p.f1 ≤ p.f3 ∧ p.f2 ≤ p.f3
/-- A valid buffer. -/
def VB (W H : Int) (l : List S58) : Prop := (1 ≤ W ∧ W ≤ 256) ∧ (1 ≤ H ∧ H ≤ 256) ∧ (l.length : Int) = W * H ∧ ∀ p ∈ l, PV p
noncomputable instance (W H : Int) (l : List S58) : Decidable (VB W H l) := Classical.propDecidable _
theorem ok_iff (p : S58) : transform_valid.ok p = true ↔ PV p := by
  unfold transform_valid.ok PV
  rw [decide_eq_true_eq]
  constructor
  · intro h
    split at h <;> split at h <;> omega
  · intro h
    split <;> split <;> omega
theorem sz_iff (n : Int) : transform_valid.sz n = true ↔ 1 ≤ n ∧ n ≤ 256 := by
  unfold transform_valid.sz
  split
  · rw [decide_eq_true_eq]; omega
  · simp only [Bool.false_eq_true, false_iff]; omega
theorem prod_small {W H : Int} (hW : 1 ≤ W ∧ W ≤ 256) (hH : 1 ≤ H ∧ H ≤ 256) : wrap64 (W * H) = W * H ∧ 1 ≤ W * H ∧ W * H ≤ 65536 := by
  have p1 := Int.mul_le_mul hW.2 hH.2 (by omega) (by omega : (0 : Int) ≤ 256)
  have p2 : 0 < W * H := Int.mul_pos (by omega) (by omega)
  refine ⟨?_, by omega, by omega⟩
  unfold wrap64; omega
theorem pvalid_eq (W H : Int) (l : List S58) : transform_valid.f W H l = some (decide (VB W H l)) := by
  unfold transform_valid.f
  by_cases hW : 1 ≤ W ∧ W ≤ 256
  · by_cases hH : 1 ≤ H ∧ H ≤ 256
    · rw [if_pos ((sz_iff W).mpr hW), if_pos ((sz_iff H).mpr hH), (prod_small hW hH).1]
      by_cases hl : (l.length : Int) = W * H
      · rw [if_pos hl]
        refine congrArg some (Bool.eq_iff_iff.mpr ?_)
        rw [List.all_eq_true, decide_eq_true_eq]
        exact ⟨fun h => ⟨hW, hH, hl, fun p hp => (ok_iff p).mp (h p hp)⟩, fun h p hp => (ok_iff p).mpr (h.2.2.2 p hp)⟩
      · rw [if_neg hl, decide_eq_false (fun h => hl h.2.2.1)]
    · rw [if_pos ((sz_iff W).mpr hW), if_neg (fun h => hH ((sz_iff H).mp h)), decide_eq_false (fun h => hH h.2.1)]
  · rw [if_neg (fun h => hW ((sz_iff W).mp h)), decide_eq_false (fun h => hW h.1)]
theorem rd_at {l : List S58} {i : Nat} (h : i < l.length) : rd_T58 l (i : Int) = l[i] := by
  simp [rd_T58, List.getD_eq_getElem?_getD, List.getElem?_eq_getElem h]
/-- The place of a pixel's image in its row of pixels. -/
def gi (t W H : Nat) (i : Nat) : Nat :=
  ((ap t W H ((i % W : Nat) : Int) ((i / W : Nat) : Int)).2 * (if odd t then (H : Int) else W) + (ap t W H ((i % W : Nat) : Int) ((i / W : Nat) : Int)).1).toNat
theorem split_in {W H i : Nat} (hW : 1 ≤ W ∧ W ≤ 256) (hH : 1 ≤ H ∧ H ≤ 256) (hi : i < W * H) : IN W H ((i % W : Nat) : Int) ((i / W : Nat) : Int) := by
  have h1 := Nat.mod_lt i (show 0 < W by omega)
  have h2 : i / W < H := (Nat.div_lt_iff_lt_mul (by omega)).mpr (by rw [Nat.mul_comm]; exact hi)
  unfold IN
  generalize i % W = x at *
  generalize i / W = y at *
  omega
/-- The size of the image. -/
def ow (t W H : Nat) : Nat := if odd t then H else W
def oh (t W H : Nat) : Nat := if odd t then W else H
theorem ow_cast (t W H : Nat) : (if odd t then (H : Int) else W) = (ow t W H : Nat) := by unfold ow; split <;> rfl
theorem oh_cast (t W H : Nat) : (if odd t then (W : Int) else H) = (oh t W H : Nat) := by unfold oh; split <;> rfl
theorem ow_oh (t W H : Nat) : ow t W H * oh t W H = W * H := by unfold ow oh; split; exact Nat.mul_comm _ _; rfl
/-- The image of a pixel, in natural numbers. -/
theorem gi_parts {t W H i : Nat} (ht : t < 8) (hW : 1 ≤ W ∧ W ≤ 256) (hH : 1 ≤ H ∧ H ≤ 256) (hi : i < W * H) :
    ∃ X Y : Nat, ap t W H ((i % W : Nat) : Int) ((i / W : Nat) : Int) = ((X : Int), (Y : Int)) ∧ X < ow t W H ∧ Y < oh t W H ∧ gi t W H i = Y * ow t W H + X := by
  have h := ap_in ht (split_in hW hH hi)
  rw [ow_cast, oh_cast] at h
  have hb := h.2
  generalize hq : ap t W H ((i % W : Nat) : Int) ((i / W : Nat) : Int) = q at *
  refine ⟨q.1.toNat, q.2.toNat, ?_, by omega, by omega, ?_⟩
  · rw [Int.toNat_of_nonneg hb.1, Int.toNat_of_nonneg hb.2.2.1]
  · unfold gi
    rw [hq, ow_cast]
    obtain ⟨X, hX⟩ : ∃ X : Nat, q.1 = X := ⟨q.1.toNat, by omega⟩
    obtain ⟨Y, hY⟩ : ∃ Y : Nat, q.2 = Y := ⟨q.2.toNat, by omega⟩
    rw [hX, hY, ← Int.natCast_mul, ← Int.natCast_add]
    simp only [Int.toNat_natCast]
theorem idx_lt {x y n m : Nat} (hx : x < n) (hy : y < m) : y * n + x < n * m := by
  have h : (y + 1) * n ≤ m * n := Nat.mul_le_mul_right n (by omega)
  rw [Nat.succ_mul, Nat.mul_comm m n] at h
  omega
theorem gi_lt {t W H i : Nat} (ht : t < 8) (hW : 1 ≤ W ∧ W ≤ 256) (hH : 1 ≤ H ∧ H ≤ 256) (hi : i < W * H) : gi t W H i < W * H := by
  obtain ⟨X, Y, -, h1, h2, e⟩ := gi_parts ht hW hH hi
  have h := idx_lt h1 h2
  rw [ow_oh] at h
  rw [e]
  exact h
/-- The rows of pixels that the loops make. -/
def fl (t W H : Nat) (l : List S58) : Nat → List S58
  | 0 => List.replicate l.length z58
  | i + 1 => (fl t W H l i).set (gi t W H i) (rd_T58 l i)
theorem fl_len (t W H : Nat) (l : List S58) : ∀ i, (fl t W H l i).length = l.length
  | 0 => by simp [fl]
  | i + 1 => by rw [fl, List.length_set, fl_len t W H l i]
/-- The transformed image, in closed form. -/
noncomputable def PX (t W H : Int) (l : List S58) : Int × Int × List S58 :=
  if VB W H l then ((ow (cl t) W.toNat H.toNat : Nat), (oh (cl t) W.toNat H.toNat : Nat), fl (cl t) W.toNat H.toNat l l.length) else (0, 0, [])
theorem st_idx {t W H i : Nat} (ht : t < 8) (hW : 1 ≤ W ∧ W ≤ 256) (hH : 1 ≤ H ∧ H ≤ 256) (hi : i < W * H) :
    wrap64 (wrap64 ((ap t W H ((i % W : Nat) : Int) ((i / W : Nat) : Int)).2 * (ow t W H : Nat)) + (ap t W H ((i % W : Nat) : Int) ((i / W : Nat) : Int)).1) = (gi t W H i : Nat) := by
  obtain ⟨X, Y, e, h1, h2, eg⟩ := gi_parts ht hW hH hi
  have hlt := gi_lt ht hW hH hi
  have hs : W * H ≤ 256 * 256 := Nat.mul_le_mul hW.2 hH.2
  rw [e, eg]
  rw [eg] at hlt
  show wrap64 (wrap64 ((Y : Int) * (ow t W H : Nat)) + X) = _
  have e2 : (Y : Int) * (ow t W H : Nat) = ((Y * ow t W H : Nat) : Int) := (Int.natCast_mul ..).symm
  rw [e2]
  have hb : Y * ow t W H + X < 65536 := Nat.lt_of_lt_of_le hlt hs
  generalize Y * ow t W H = P at hb ⊢
  clear hlt hs hi hW hH h1 h2 e2 eg e
  have e3 : wrap64 (P : Int) = P := by unfold wrap64; omega
  rw [e3]
  unfold wrap64; omega
theorem pix_l0 {t : Int} {W H : Nat} {l : List S58} (hW : 1 ≤ W ∧ W ≤ 256) (hH : 1 ≤ H ∧ H ≤ 256) (hl : l.length = W * H) : ∀ d i, i + d = l.length → ∀ k, 1 ≤ k →
    transform_Pixels.l0 (k + d + 1) t (ow (cl t) W H : Nat) l (l.length : Int) i W H l (ow (cl t) W H : Nat) (oh (cl t) W H : Nat) (fl (cl t) W H l i) = some (((ow (cl t) W H : Nat) : Int), ((oh (cl t) W H : Nat) : Int), fl (cl t) W H l l.length) := by
  have hs : l.length ≤ 65536 := by rw [hl]; exact Nat.mul_le_mul hW.2 hH.2
  intro d
  induction d with
  | zero =>
    intro i hi k hk
    obtain rfl : i = l.length := by omega
    rw [transform_Pixels.l0, if_neg (by omega)]
  | succ d ih =>
    intro i hi k hk
    have hil : i < W * H := by rw [← hl]; omega
    have hg : gi (cl t) W H i < l.length := by rw [hl]; exact gi_lt (cl_lt t) hW hH hil
    have hin := split_in hW hH hil
    have h0 := Aside0.mk (st_idx (cl_lt t) hW hH hil)
    clear hil hl
    have hlen := fl_len (cl t) W H l i
    have e1 : Aside0 (Int.tmod (i : Int) W = ((i % W : Nat) : Int)) := ⟨by rw [Int.tmod_eq_emod_of_nonneg (by omega), Int.natCast_emod]⟩
    have e2 : Aside0 (wrap64 (Int.tdiv (i : Int) W) = ((i / W : Nat) : Int)) := ⟨by
      rw [Int.tdiv_eq_ediv_of_nonneg (by omega), ← Int.natCast_ediv]
      have : i / W ≤ i := Nat.div_le_self ..
      generalize i / W = y at this ⊢
      clear ih
      unfold wrap64; omega⟩
    have ew : Aside0 (wrap64 ((i : Int) + 1) = ((i + 1 : Nat) : Int)) := ⟨by clear ih; unfold wrap64; omega⟩
    have hd : k + (d + 1) + 1 = (k + d + 1) + 1 := by omega
    rw [hd, transform_Pixels.l0, if_pos (by omega), if_pos (by omega), if_pos (by omega), normal_eq, Option.bind_some, if_neg (by omega), e1.out, e2.out, apply_eq (cl_lt t) hin _ (by omega), Option.bind_some, h0.out]
    rw [if_pos (by omega), if_pos (by rw [hlen]; omega), ew.out]
    simp only [Int.toNat_natCast]
    exact ih (i + 1) (by omega) k hk
theorem Pixels_eq (t W H : Int) (l : List S58) (k : Nat) (hk : l.length + 2 ≤ k) : transform_Pixels.f k t W H l = some (PX t W H l) := by
  unfold transform_Pixels.f PX
  rw [pvalid_eq, Option.bind_some]
  by_cases hv : VB W H l
  · rw [if_pos (decide_eq_true hv), if_pos hv]
    obtain ⟨hW, hH, hl, -⟩ := hv
    obtain ⟨W, rfl⟩ : ∃ a : Nat, W = a := ⟨W.toNat, by omega⟩
    obtain ⟨H, rfl⟩ : ∃ a : Nat, H = a := ⟨H.toNat, by omega⟩
    have hl2 : l.length = W * H := by have := Int.natCast_mul W H; omega
    have hs : W * H ≤ 256 * 256 := Nat.mul_le_mul (by omega) (by omega)
    have ep : wrap64 (((ow (cl t) W H : Nat) : Int) * ((oh (cl t) W H : Nat) : Int)) = (l.length : Int) := by
      rw [← Int.natCast_mul, ow_oh, ← hl2]
      unfold wrap64; omega
    rw [size_eq, Option.bind_some, ite_fst, ite_snd, ow_cast, oh_cast, ep, if_pos (by omega), if_pos (by omega)]
    simp only [Int.toNat_natCast]
    obtain ⟨j, rfl⟩ : ∃ j, k = (j + 1) + l.length + 1 := ⟨k - l.length - 2, by omega⟩
    exact pix_l0 (t := t) (by omega) (by omega) hl2 l.length 0 (by omega) (j + 1) (by omega)
  · rw [if_neg (by simpa using hv), if_neg hv]
theorem same_l (W H : Int) (l : List S58) (hl : l.length ≤ 100000) : ∀ d i, i + d = l.length → ∀ k, d + 1 ≤ k → compositorref07_Same.l0 k i W H l W H l = some true := by
  intro d
  induction d with
  | zero =>
    intro i hi k hk
    obtain ⟨k, rfl⟩ : ∃ j, k = j + 1 := ⟨k - 1, by omega⟩
    rw [compositorref07_Same.l0, if_neg (by omega)]
  | succ d ih =>
    intro i hi k hk
    obtain ⟨k, rfl⟩ : ∃ j, k = j + 1 := ⟨k - 1, by omega⟩
    have ew : wrap64 ((i : Int) + 1) = ((i + 1 : Nat) : Int) := by unfold wrap64; omega
    rw [compositorref07_Same.l0, if_pos (by omega), if_pos (by omega), if_pos (by omega), ew]
    simp only [beq_self_eq_true, Bool.not_true, Bool.or_self, Bool.false_eq_true, if_false]
    exact ih (i + 1) (by omega) k (by omega)
/-- A buffer is the same as itself. -/
theorem same_refl (W H : Int) (l : List S58) (hl : l.length ≤ 100000) (k : Nat) (hk : l.length + 2 ≤ k) : compositorref07_Same.f k W H l W H l = some true := by
  obtain ⟨k, rfl⟩ : ∃ j, k = j + 1 := ⟨k - 1, by omega⟩
  have h1 : compositorref07_Same.l0 k 0 W H l W H l = some true := same_l W H l hl l.length 0 (by omega) k (by omega)
  simp only [compositorref07_Same.f, if_true, compositorref07_Same.j0, bne_self_eq_false, Bool.false_eq_true, if_false, h1]
theorem PX_len (t W H : Int) (l : List S58) : (PX t W H l).2.2.length ≤ l.length := by
  unfold PX
  split
  · show (fl _ _ _ _ _).length ≤ _
    rw [fl_len]
    exact Nat.le_refl _
  · exact Nat.zero_le _
theorem lsmall_eq (a b : Int) (l : List S58) : compositorlaw07_small.f a b l = some (decide ((l.length : Int) ≤ 400)) := rfl
/-- One transform behind another, by its formula. -/
def cmpA (a b : Nat) : Nat := if a < 4 then (if b < 4 then (a + b) % 4 else 4 + (b - a) % 4) else (if b < 4 then 4 + (a + b) % 4 else (8 + b - a) % 4)
theorem cmp_A : ∀ a : Fin 8, ∀ b : Fin 8, cmp a.val b.val = cmpA a.val b.val := by decide +kernel
theorem inv_A : ∀ a : Fin 8, inv a.val = [0, 3, 2, 1, 4, 5, 6, 7].getD a.val 0 := by decide +kernel
theorem ap_comp {a b : Nat} (ha : a < 8) (hb : b < 8) (w h x y : Int) : ap b (if odd a then h else w) (if odd a then w else h) (ap a w h x y).1 (ap a w h x y).2 = ap (cmp a b) w h x y := by
  have e := cmp_A ⟨a, ha⟩ ⟨b, hb⟩
  simp only at e
  rw [e]
  rcases lt8 ha with rfl | rfl | rfl | rfl | rfl | rfl | rfl | rfl <;> rcases lt8 hb with rfl | rfl | rfl | rfl | rfl | rfl | rfl | rfl <;> simp [ap, odd, cmpA] <;> omega
theorem ap_inv {a : Nat} (ha : a < 8) (w h x y : Int) : ap (inv a) (if odd a then h else w) (if odd a then w else h) (ap a w h x y).1 (ap a w h x y).2 = (x, y) := by
  have e := inv_A ⟨a, ha⟩
  simp only at e
  rw [e]
  rcases lt8 ha with rfl | rfl | rfl | rfl | rfl | rfl | rfl | rfl <;> simp [ap, odd] <;> omega
theorem inv_inv : ∀ x : Fin 8, inv (inv x.val) = x.val ∧ (odd (inv x.val) ↔ odd x.val) := by decide +kernel
theorem odd_cmp : ∀ x : Fin 8, ∀ y : Fin 8, odd (cmp x.val y.val) ↔ ¬ (odd x.val ↔ odd y.val) := by decide +kernel
theorem ow_inv {t W H : Nat} (ht : t < 8) : ow (inv t) (ow t W H) (oh t W H) = W ∧ oh (inv t) (ow t W H) (oh t W H) = H := by
  have h := (inv_inv ⟨t, ht⟩).2
  simp only at h
  unfold ow oh
  by_cases c : odd t
  · simp [h.mpr c, c]
  · have c' : ¬ odd (inv t) := fun q => c (h.mp q)
    simp [c', c]
theorem ow_cmp {a b W H : Nat} (ha : a < 8) (hb : b < 8) : ow b (ow a W H) (oh a W H) = ow (cmp a b) W H ∧ oh b (ow a W H) (oh a W H) = oh (cmp a b) W H := by
  have h := odd_cmp ⟨a, ha⟩ ⟨b, hb⟩
  simp only at h
  unfold ow oh
  by_cases c : odd a <;> by_cases d : odd b <;> simp [h, c, d]
theorem ow_b {t W H : Nat} (hW : 1 ≤ W ∧ W ≤ 256) (hH : 1 ≤ H ∧ H ≤ 256) : (1 ≤ ow t W H ∧ ow t W H ≤ 256) ∧ (1 ≤ oh t W H ∧ oh t W H ≤ 256) := by
  unfold ow oh
  split <;> exact ⟨by omega, by omega⟩
theorem parts {X Y n : Nat} (hX : X < n) : (Y * n + X) % n = X ∧ (Y * n + X) / n = Y := by
  constructor
  · rw [Nat.add_comm, Nat.add_mul_mod_self_right, Nat.mod_eq_of_lt hX]
  · rw [Nat.add_comm, Nat.add_mul_div_right _ _ (by omega), Nat.div_eq_of_lt hX]; omega
/-- The place of the place. -/
theorem gi_cmp {a b W H i : Nat} (ha : a < 8) (hb : b < 8) (hW : 1 ≤ W ∧ W ≤ 256) (hH : 1 ≤ H ∧ H ≤ 256) (hi : i < W * H) : gi b (ow a W H) (oh a W H) (gi a W H i) = gi (cmp a b) W H i := by
  obtain ⟨X, Y, e, h1, h2, eg⟩ := gi_parts ha hW hH hi
  have hc := ap_comp ha hb (W : Int) H ((i % W : Nat) : Int) ((i / W : Nat) : Int)
  rw [ow_cast, oh_cast, e] at hc
  have p := parts (Y := Y) h1
  have hw := (ow_cmp (W := W) (H := H) ha hb).1
  unfold gi at eg ⊢
  rw [eg, p.1, p.2, hc]
  have e2 := ow_cast b (ow a W H) (oh a W H)
  rw [e2, hw, ow_cast (cmp a b)]
theorem gi_inv {t W H i : Nat} (ht : t < 8) (hW : 1 ≤ W ∧ W ≤ 256) (hH : 1 ≤ H ∧ H ≤ 256) (hi : i < W * H) : gi (inv t) (ow t W H) (oh t W H) (gi t W H i) = i := by
  obtain ⟨X, Y, e, h1, h2, eg⟩ := gi_parts ht hW hH hi
  have hc := ap_inv ht (W : Int) H ((i % W : Nat) : Int) ((i / W : Nat) : Int)
  rw [ow_cast, oh_cast, e] at hc
  have p := parts (Y := Y) h1
  have hw := (ow_inv (W := W) (H := H) ht).1
  unfold gi at eg ⊢
  rw [eg, p.1, p.2, hc]
  have e2 := ow_cast (inv t) (ow t W H) (oh t W H)
  rw [e2, hw]
  show (((i / W : Nat) : Int) * (W : Nat) + ((i % W : Nat) : Int)).toNat = i
  rw [← Int.natCast_mul, ← Int.natCast_add, Int.toNat_natCast, Nat.mul_comm, Nat.div_add_mod]
theorem gi_inj {t W H i j : Nat} (ht : t < 8) (hW : 1 ≤ W ∧ W ≤ 256) (hH : 1 ≤ H ∧ H ≤ 256) (hi : i < W * H) (hj : j < W * H) (h : gi t W H i = gi t W H j) : i = j := by
  rw [← gi_inv ht hW hH hi, ← gi_inv ht hW hH hj, h]
theorem gi_surj {t W H k : Nat} (ht : t < 8) (hW : 1 ≤ W ∧ W ≤ 256) (hH : 1 ≤ H ∧ H ≤ 256) (hk : k < W * H) : ∃ i, i < W * H ∧ gi t W H i = k := by
  have b := ow_b (t := t) hW hH
  have hk2 : k < ow t W H * oh t W H := by rw [ow_oh]; exact hk
  have ii := inv_inv ⟨t, ht⟩
  simp only at ii
  have w := ow_inv (W := W) (H := H) ht
  have h := gi_inv (inv_lt t ht) b.1 b.2 hk2
  rw [ii.1, w.1, w.2] at h
  have g := gi_lt (inv_lt t ht) b.1 b.2 hk2
  rw [ow_oh] at g
  exact ⟨_, g, h⟩
/-- What the loops have laid. -/
theorem fl_at {t W H : Nat} {l : List S58} (ht : t < 8) (hW : 1 ≤ W ∧ W ≤ 256) (hH : 1 ≤ H ∧ H ≤ 256) (hl : l.length = W * H) : ∀ n, n ≤ l.length → ∀ i, i < n → (fl t W H l n)[gi t W H i]? = some (rd_T58 l i) := by
  intro n
  induction n with
  | zero => intro _ i hi; omega
  | succ n ih =>
    intro hn i hi
    rw [fl]
    have hlen := fl_len t W H l n
    by_cases e : i = n
    · subst e
      rw [List.getElem?_set_self (by rw [hlen, hl]; exact gi_lt ht hW hH (by omega))]
    · rw [List.getElem?_set_ne (fun q => e (gi_inj ht hW hH (by omega) (by omega) q.symm))]
      exact ih (by omega) i (by omega)
theorem fl_rd {t W H : Nat} {l : List S58} (ht : t < 8) (hW : 1 ≤ W ∧ W ≤ 256) (hH : 1 ≤ H ∧ H ≤ 256) (hl : l.length = W * H) {i : Nat} (hi : i < W * H) : rd_T58 (fl t W H l l.length) (gi t W H i : Nat) = rd_T58 l i := by
  have h := fl_at ht hW hH hl l.length (Nat.le_refl _) i (by omega)
  have e : rd_T58 (fl t W H l l.length) (gi t W H i : Nat) = ((fl t W H l l.length)[gi t W H i]?).getD z58 := by
    unfold rd_T58
    rw [List.getD_eq_getElem?_getD, Int.toNat_natCast]
  rw [e, h]
  rfl
theorem rd_some {l : List S58} {i : Nat} (h : i < l.length) : l[i]? = some (rd_T58 l (i : Int)) := by
  rw [rd_at h, List.getElem?_eq_getElem h]
theorem vb_fl {t W H : Nat} {l : List S58} (ht : t < 8) (hv : VB W H l) : VB (ow t W H : Nat) (oh t W H : Nat) (fl t W H l l.length) := by
  obtain ⟨hW, hH, hl, hp⟩ := hv
  have hl2 : l.length = W * H := by have := Int.natCast_mul W H; omega
  have b := ow_b (t := t) (W := W) (H := H) (by omega) (by omega)
  refine ⟨by omega, by omega, by rw [fl_len, ← Int.natCast_mul, ow_oh, ← hl2], fun p hm => ?_⟩
  obtain ⟨k, hk, rfl⟩ := List.mem_iff_getElem.mp hm
  rw [fl_len, hl2] at hk
  obtain ⟨i, hi, rfl⟩ := gi_surj ht (by omega) (by omega) hk
  have h := fl_at ht (by omega) (by omega) hl2 l.length (Nat.le_refl _) i (by omega)
  rw [List.getElem?_eq_getElem (by rw [fl_len, hl2]; exact gi_lt ht (by omega) (by omega) hi)] at h
  rw [Option.some.inj h, rd_at (by omega)]
  exact hp _ (List.getElem_mem _)
theorem fl_cmp {a b W H : Nat} {l : List S58} (ha : a < 8) (hb : b < 8) (hW : 1 ≤ W ∧ W ≤ 256) (hH : 1 ≤ H ∧ H ≤ 256) (hl : l.length = W * H) :
    fl b (ow a W H) (oh a W H) (fl a W H l l.length) (fl a W H l l.length).length = fl (cmp a b) W H l l.length := by
  have bb := ow_b (t := a) hW hH
  have hc := (cmp_nn a ha b hb).2
  have l1 : (fl a W H l l.length).length = ow a W H * oh a W H := by rw [fl_len, ow_oh, hl]
  refine List.ext_getElem? (fun k => ?_)
  by_cases hk : k < W * H
  · obtain ⟨i, hi, rfl⟩ := gi_surj hc hW hH hk
    rw [fl_at hc hW hH hl l.length (Nat.le_refl _) i (by omega), ← gi_cmp ha hb hW hH hi]
    have g := gi_lt ha hW hH hi
    rw [fl_at hb bb.1 bb.2 l1 _ (Nat.le_refl _) (gi a W H i) (by rw [fl_len, hl]; exact g), fl_rd ha hW hH hl hi]
  · rw [List.getElem?_eq_none (by rw [fl_len, fl_len, hl]; omega), List.getElem?_eq_none (by rw [fl_len, hl]; omega)]
theorem fl_inv {a W H : Nat} {l : List S58} (ha : a < 8) (hW : 1 ≤ W ∧ W ≤ 256) (hH : 1 ≤ H ∧ H ≤ 256) (hl : l.length = W * H) :
    fl (inv a) (ow a W H) (oh a W H) (fl a W H l l.length) (fl a W H l l.length).length = l := by
  have bb := ow_b (t := a) hW hH
  have l1 : (fl a W H l l.length).length = ow a W H * oh a W H := by rw [fl_len, ow_oh, hl]
  refine List.ext_getElem? (fun i => ?_)
  by_cases hi : i < W * H
  · have g := gi_lt ha hW hH hi
    have h := fl_at (inv_lt a ha) bb.1 bb.2 l1 _ (Nat.le_refl _) (gi a W H i) (by rw [fl_len, hl]; exact g)
    rw [gi_inv ha hW hH hi, fl_rd ha hW hH hl hi] at h
    rw [h, rd_some (by omega)]
  · rw [List.getElem?_eq_none (by rw [fl_len, fl_len, hl]; omega), List.getElem?_eq_none (by omega)]
theorem PX_valid {t : Int} {W H : Nat} {l : List S58} (hv : VB W H l) : PX t W H l = (((ow (cl t) W H : Nat) : Int), ((oh (cl t) W H : Nat) : Int), fl (cl t) W H l l.length) := by
  unfold PX
  rw [if_pos hv]
  simp only [Int.toNat_natCast]
theorem not_vb0 : ¬ VB 0 0 [] := fun h => by have := h.1; omega
theorem TransformImages (x0 : Int) (x1 : Int) (x2 : S47) (ok0 : (Lit.int .i64 x0).wf = true) (ok1 : (Lit.int .i64 x1).wf = true) (ok2 : ((Lit.int .i64 x2.f0).wf = true) ∧ ((Lit.int .i64 x2.f1).wf = true) ∧ (x2.f2.length * 4 ≤ 140737488351232 ∧ x2.f2.length ≤ 9223372036854775807 ∧ ∀ y45 ∈ x2.f2, ((Lit.int .u8 y45.f0).wf = true) ∧ ((Lit.int .u8 y45.f1).wf = true) ∧ ((Lit.int .u8 y45.f2).wf = true) ∧ ((Lit.int .u8 y45.f3).wf = true))) :
    ∃ k, compositorlaw07_TransformImages.f k x0 x1 x2.f0 x2.f1 x2.f2 = some true := by
  refine ⟨80000, ?_⟩
  clear ok0 ok1 ok2
  generalize x2.f0 = W
  generalize x2.f1 = H
  generalize x2.f2 = l
  simp only [compositorlaw07_TransformImages.f, lsmall_eq, Option.bind_some, decide_eq_true_eq, example_holds 80000 (by omega)]
  by_cases hs : (l.length : Int) ≤ 400
  · have p := PX_len x0 W H l
    have e1 : cl ((cmp (cl x0) (cl x1) : Nat) : Int) = cmp (cl x0) (cl x1) := cl_idem (cmp_nn _ (cl_lt x0) _ (cl_lt x1)).2
    have e2 : cl ((inv (cl x0) : Nat) : Int) = inv (cl x0) := cl_idem (inv_lt _ (cl_lt x0))
    rw [if_pos hs, Pixels_eq x0 W H l 80000 (by omega), Option.bind_some, Pixels_eq x1 _ _ _ 80000 (by omega), Option.bind_some, compose_eq, Option.bind_some, Pixels_eq _ W H l 80000 (by omega), Option.bind_some]
    by_cases hv : VB W H l
    · have hW := hv.1
      have hH := hv.2.1
      obtain ⟨W, rfl⟩ : ∃ a : Nat, W = a := ⟨W.toNat, by omega⟩
      obtain ⟨H, rfl⟩ : ∃ a : Nat, H = a := ⟨H.toNat, by omega⟩
      have hl2 : l.length = W * H := by have := hv.2.2.1; have := Int.natCast_mul W H; omega
      have v1 := vb_fl (cl_lt x0) hv
      have n1 := fl_len (cl x0) W H l l.length
      rw [PX_valid hv, PX_valid hv, e1]
      simp only
      rw [PX_valid v1]
      simp only
      rw [fl_cmp (cl_lt x0) (cl_lt x1) (by omega) (by omega) hl2, (ow_cmp (cl_lt x0) (cl_lt x1)).1, (ow_cmp (cl_lt x0) (cl_lt x1)).2, same_refl _ _ _ (by rw [fl_len]; omega) 80000 (by rw [fl_len]; omega), Option.bind_some, if_pos rfl]
      have b := ow_b (t := cl x0) (W := W) (H := H) (by omega) (by omega)
      rw [if_pos (by omega), invert_eq, Option.bind_some, Pixels_eq _ _ _ _ 80000 (by omega), PX_valid v1, Option.bind_some, e2]
      simp only
      rw [fl_inv (cl_lt x0) (by omega) (by omega) hl2, (ow_inv (cl_lt x0)).1, (ow_inv (cl_lt x0)).2, same_refl _ _ _ (by omega) 80000 (by omega), Option.bind_some, if_pos rfl]
    · have z : ∀ t, PX t W H l = (0, 0, []) := fun t => if_neg hv
      have z0 : ∀ t, PX t 0 0 [] = (0, 0, []) := fun t => if_neg not_vb0
      rw [z, z]
      simp only
      rw [z0]
      simp only
      rw [same_refl 0 0 [] (by simp) 80000 (by simp), Option.bind_some, if_pos rfl, if_neg (by omega)]
  · rw [if_neg hs]

end Go.Proofs.YtpihfglghcoojaaDoor.Pure
