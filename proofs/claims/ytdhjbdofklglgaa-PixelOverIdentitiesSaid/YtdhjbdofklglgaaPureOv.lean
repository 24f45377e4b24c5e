/-
  Plain laws (numbers and lists) for the statement Ov: no program in sight.
-/
import Derived.Test.YtdhjbdofklglgaaAllx5
import Derived.Test.YtdhjbdofklglgaaPureBase
namespace Go.Proofs.Ytdhjbdofklglgaa.Pure
open Go.RowKit Go.Proofs.YtdhjbdofklglgaaW.PrintWords Go.Proofs.YtdhjbdofklglgaaW.PrintMore Go.Proofs.Ytdhjbdofklglgaa.All
set_option linter.unusedVariables false
set_option linter.unusedSimpArgs false
theorem pd_0r {a : Int} : pd a 0 = 0 := by unfold pd; rw [Int.mul_zero]; rfl
theorem pd_0l {a : Int} : pd 0 a = 0 := by unfold pd; rw [Int.zero_mul]; rfl
theorem pd_255r {a : Int} (h0 : 0 ≤ a) (h1 : a ≤ 255) : pd a 255 = a := by unfold pd; omega
theorem mn_le {x a : Int} (h : x ≤ a) : mn x a = x := by unfold mn; split <;> omega
/-- A valid component under its alpha. -/
def Vc (x a : Int) : Prop := 0 ≤ x ∧ x ≤ a ∧ a ≤ 255
theorem vc_mn {x a : Int} (h0 : 0 ≤ x) (h1 : x ≤ 255) (h2 : 0 ≤ a) (h3 : a ≤ 255) : Vc (mn x a) a := by
  have := mn_range h0 h1 h2 h3
  unfold Vc; omega
/-- Blending of clamped pixels. -/
theorem ovc {a b c d a' b' c' d' : Int} (ha : Vc a d) (hb : Vc b d) (hc : Vc c d) (ha' : Vc a' d') (hb' : Vc b' d') (hc' : Vc c' d') :
    pixel_Over.f a b c d a' b' c' d' = some (a + pd a' (255 - d), b + pd b' (255 - d), c + pd c' (255 - d), d + pd d' (255 - d)) := by
  unfold Vc at *
  rw [over_eq (by omega) (by omega) (by omega) (by omega) (by omega) (by omega) (by omega) (by omega) (by omega) (by omega) (by omega) (by omega) (by omega) (by omega) (by omega) (by omega)]
  unfold ov
  rw [mn_le ha.2.1, mn_le hb.2.1, mn_le hc.2.1, mn_le ha'.2.1, mn_le hb'.2.1, mn_le hc'.2.1]
/-- What is blended is valid again. -/
theorem vc_ov {x a x' a' : Int} (h : Vc x a) (h' : Vc x' a') : Vc (x + pd x' (255 - a)) (a + pd a' (255 - a)) := by
  unfold Vc at *
  have r := ov_range (a := x) (d := a) (a' := x') (d' := a') (by omega) (by omega) (by omega) (by omega) (by omega) (by omega) (by omega) (by omega)
  rw [mn_le h.2.1, mn_le h'.2.1] at r
  omega

end Go.Proofs.Ytdhjbdofklglgaa.Pure
