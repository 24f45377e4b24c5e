/-
  Plain laws (numbers and lists) for the statement PixelOverIdentities: no program in sight.
-/
import Derived.Test.YtdhjbdofklglgaaAllx0
import Derived.Test.YtdhjbdofklglgaaAllx14
import Derived.Test.YtdhjbdofklglgaaAllx15
import Derived.Test.YtdhjbdofklglgaaAllx2
import Derived.Test.YtdhjbdofklglgaaAllx5
import Derived.Test.YtdhjbdofklglgaaPureOv
namespace Go.Proofs.Ytdhjbdofklglgaa.Pure
open Go.RowKit Go.Proofs.YtdhjbdofklglgaaW.PrintWords Go.Proofs.YtdhjbdofklglgaaW.PrintMore Go.Proofs.Ytdhjbdofklglgaa.All
set_option linter.unusedVariables false
set_option linter.unusedSimpArgs false
theorem al_ge {a a' : Int} (h : 0 ≤ a) (h1 : a ≤ 255) (h' : 0 ≤ a') (h1' : a' ≤ 255) : a' ≤ a + pd a' (255 - a) := by
  have e : a' * (255 - a) = a' * 255 - a' * a := Int.mul_sub _ _ _
  have q : a' * a ≤ 255 * a := Int.mul_le_mul_of_nonneg_right h1' h
  unfold pd
  rw [e]
  omega
theorem PixelOverIdentities (x0 : S23) (x1 : S23) (ok0 : ((Lit.int .u8 x0.f0).wf = true) ∧ ((Lit.int .u8 x0.f1).wf = true) ∧ ((Lit.int .u8 x0.f2).wf = true) ∧ ((Lit.int .u8 x0.f3).wf = true)) (ok1 : ((Lit.int .u8 x1.f0).wf = true) ∧ ((Lit.int .u8 x1.f1).wf = true) ∧ ((Lit.int .u8 x1.f2).wf = true) ∧ ((Lit.int .u8 x1.f3).wf = true)) :
    ∃ k, compositorlaw08_PixelOverIdentities.f k x0.f0 x0.f1 x0.f2 x0.f3 x1.f0 x1.f1 x1.f2 x1.f3 = some true := by
  obtain ⟨a, b, c, d⟩ := x0
  obtain ⟨a', b', c', d'⟩ := x1
  obtain ⟨a0, a1⟩ := u8 ok0.1
  obtain ⟨b0, b1⟩ := u8 ok0.2.1
  obtain ⟨c0, c1⟩ := u8 ok0.2.2.1
  obtain ⟨d0, d1⟩ := u8 ok0.2.2.2
  obtain ⟨a0', a1'⟩ := u8 ok1.1
  obtain ⟨b0', b1'⟩ := u8 ok1.2.1
  obtain ⟨c0', c1'⟩ := u8 ok1.2.2.1
  obtain ⟨d0', d1'⟩ := u8 ok1.2.2.2
  clear ok0 ok1
  refine ⟨1, ?_⟩
  simp only at *
  unfold compositorlaw08_PixelOverIdentities.f
  simp only [clamp_eq, Option.bind_some]
  have va := vc_mn a0 a1 d0 d1
  have vb := vc_mn b0 b1 d0 d1
  have vc := vc_mn c0 c1 d0 d1
  have va' := vc_mn a0' a1' d0' d1'
  have vb' := vc_mn b0' b1' d0' d1'
  have vc' := vc_mn c0' c1' d0' d1'
  generalize mn a d = p at *
  generalize mn b d = q at *
  generalize mn c d = r at *
  generalize mn a' d' = p' at *
  generalize mn b' d' = q' at *
  generalize mn c' d' = r' at *
  have z : Vc 0 0 := by unfold Vc; omega
  have t : ∀ x, Vc x d → Vc x 255 := by intro x h; unfold Vc at *; omega
  have i1 := pd_range (a := p') (b := 255 - d) (by unfold Vc at *; omega) (by unfold Vc at *; omega) (by omega) (by omega)
  have i2 := pd_range (a := q') (b := 255 - d) (by unfold Vc at *; omega) (by unfold Vc at *; omega) (by omega) (by omega)
  have i3 := pd_range (a := r') (b := 255 - d) (by unfold Vc at *; omega) (by unfold Vc at *; omega) (by omega) (by omega)
  have i4 := pd_range (a := d') (b := 255 - d) d0' d1' (by omega) (by omega)
  have g := al_ge d0 d1 d0' d1'
  have sc1 : ∀ x y w, Vc x d → Vc y d → Vc w d → pixel_Scale.f x y w d 255 = some (x, y, w, d) := by
    intro x y w hx hy hw
    unfold Vc at *
    rw [scale_eq (by omega) (by omega) (by omega) (by omega) (by omega) (by omega) (by omega) (by omega) (by omega) (by omega)]
    unfold sc
    rw [mn_le hx.2.1, mn_le hy.2.1, mn_le hw.2.1, pd_255r (by omega) (by omega), pd_255r (by omega) (by omega), pd_255r (by omega) (by omega), pd_255r (by omega) (by omega)]
  have sc0 : ∀ x y w, Vc x d → Vc y d → Vc w d → pixel_Scale.f x y w d 0 = some (0, 0, 0, 0) := by
    intro x y w hx hy hw
    unfold Vc at *
    rw [scale_eq (by omega) (by omega) (by omega) (by omega) (by omega) (by omega) (by omega) (by omega) (by omega) (by omega)]
    unfold sc
    rw [pd_0r, pd_0r, pd_0r, pd_0r]
  have fin : compositorlaw08_PixelOverIdentities.j0 1 false p q r d p' q' r' d' p q r 255 = some true := by
    have e2 : pixel_Over.f 0 0 0 0 p' q' r' d' = some (p', q', r', d') := by
      rw [ovc z z z va' vb' vc']
      unfold Vc at *
      rw [show (255 : Int) - 0 = 255 from rfl, pd_255r (a := p') (by omega) (by omega), pd_255r (a := q') (by omega) (by omega), pd_255r (a := r') (by omega) (by omega), pd_255r (a := d') (by omega) (by omega)]
      simp
    simp only [compositorlaw08_PixelOverIdentities.j0, Bool.false_eq_true, if_false]
    rw [ovc (t _ va) (t _ vb) (t _ vc) va' vb' vc', e2, ovc va vb vc z z z, sc1 _ _ _ va vb vc, sc0 _ _ _ va vb vc, example_holds]
    simp [pd_0r, pd_0l]
  rw [ovc va vb vc va' vb' vc']
  simp only [Option.bind_some, pixel_Opaque.f]
  rw [if_neg (by omega), if_neg (by omega), if_neg (by omega), if_neg (by omega), if_neg (by omega)]
  by_cases h1 : d = 255
  · subst h1
    have e : (255 : Int) + pd d' (255 - 255) = 255 := by rw [Int.sub_self, pd_0r]; rfl
    rw [e]
    simpa using fin
  · by_cases h2 : d' = 255
    · subst h2
      have e : d + pd 255 (255 - d) = 255 := by rw [pd_255 (by omega) (by omega)]; omega
      rw [e]
      simpa [h1] using fin
    · simpa [h1, h2] using fin

end Go.Proofs.Ytdhjbdofklglgaa.Pure
