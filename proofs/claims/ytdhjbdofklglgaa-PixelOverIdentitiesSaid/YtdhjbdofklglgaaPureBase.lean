/-
  Plain laws (numbers and lists) for the statement Base: no program in sight.
-/
import Derived.Test.YtdhjbdofklglgaaAllx2
import Derived.Test.YtdhjbdofklglgaaAllx3
import Derived.Test.YtdhjbdofklglgaaAllx4
import Derived.Test.YtdhjbdofklglgaaAllx5
import Derived.Test.YtdhjbdofklglgaaAllx7
namespace Go.Proofs.Ytdhjbdofklglgaa.Pure
open Go.RowKit Go.Proofs.YtdhjbdofklglgaaW.PrintWords Go.Proofs.YtdhjbdofklglgaaW.PrintMore Go.Proofs.Ytdhjbdofklglgaa.All
set_option linter.unusedVariables false
set_option linter.unusedSimpArgs false
theorem u8 {x : Int} (h : (Lit.int .u8 x).wf = true) : 0 ≤ x ∧ x ≤ 255 := by
  simpa [Lit.wf, IntKind.min, IntKind.max, IntKind.signed, IntKind.bits] using h
theorem example_holds : compositorlaw08_exampleHolds.f = some true := by
  decide +kernel

/-- The product of two bytes, as the chapter has it. -/
def pd (a b : Int) : Int := (a * b + 127) / 255
theorem mul_range {a b : Int} (h0 : 0 ≤ a) (h1 : a ≤ 255) (h2 : 0 ≤ b) (h3 : b ≤ 255) : 0 ≤ a * b ∧ a * b ≤ 65025 := by
  have p := Int.mul_nonneg h0 h2
  have q := Int.mul_le_mul h1 h3 h2 (by omega : (0 : Int) ≤ 255)
  omega
theorem pd_range {a b : Int} (h0 : 0 ≤ a) (h1 : a ≤ 255) (h2 : 0 ≤ b) (h3 : b ≤ 255) : 0 ≤ pd a b ∧ pd a b ≤ 255 := by
  obtain ⟨p, q⟩ := mul_range h0 h1 h2 h3
  unfold pd
  omega
/-- The product is at most either factor, and grows with each. -/
theorem pd_le {a b : Int} (h0 : 0 ≤ a) (h2 : 0 ≤ b) (h3 : b ≤ 255) : pd a b ≤ a := by
  have q : a * b ≤ a * 255 := Int.mul_le_mul_of_nonneg_left h3 h0
  unfold pd
  omega
theorem pd_mono {a a' b : Int} (h : a ≤ a') (hb : 0 ≤ b) : pd a b ≤ pd a' b := by
  have q : a * b ≤ a' * b := Int.mul_le_mul_of_nonneg_right h hb
  unfold pd
  omega
theorem pr_eq {a b : Int} (h0 : 0 ≤ a) (h1 : a ≤ 255) (h2 : 0 ≤ b) (h3 : b ≤ 255) : (wrap64 (Int.tdiv (wrap64 ((wrap64 ((wrap64 a) * (wrap64 b))) + 127)) 255)) % 256 = pd a b := by
  obtain ⟨p, q⟩ := mul_range h0 h1 h2 h3
  have e1 : wrap64 a = a := by unfold wrap64; omega
  have e2 : wrap64 b = b := by unfold wrap64; omega
  rw [e1, e2]
  have e3 : wrap64 (a * b) = a * b := by unfold wrap64; omega
  rw [e3]
  have e4 : wrap64 (a * b + 127) = a * b + 127 := by unfold wrap64; omega
  rw [e4, Int.tdiv_eq_ediv_of_nonneg (by omega)]
  unfold pd wrap64
  omega
theorem clamp_eq (a b c d : Int) : pixel_Clamp.f a b c d = some (mn a d, mn b d, mn c d, d) := rfl
theorem rclamp_eq (a b c d : Int) : compositorref08_Clamp.f a b c d = some (mn a d, mn b d, mn c d, d) := rfl
theorem mn_range {a d : Int} (h0 : 0 ≤ a) (h1 : a ≤ 255) (h2 : 0 ≤ d) (h3 : d ≤ 255) : 0 ≤ mn a d ∧ mn a d ≤ 255 ∧ mn a d ≤ d ∧ mn a d ≤ a := by
  unfold mn
  split <;> omega
def sc (a b c d k : Int) : Int × Int × Int × Int := (pd (mn a d) k, pd (mn b d) k, pd (mn c d) k, pd d k)
theorem scale_eq {a b c d k : Int} (a0 : 0 ≤ a) (a1 : a ≤ 255) (b0 : 0 ≤ b) (b1 : b ≤ 255) (c0 : 0 ≤ c) (c1 : c ≤ 255) (d0 : 0 ≤ d) (d1 : d ≤ 255) (k0 : 0 ≤ k) (k1 : k ≤ 255) :
    pixel_Scale.f a b c d k = some (sc a b c d k) := by
  have ha := mn_range a0 a1 d0 d1
  have hb := mn_range b0 b1 d0 d1
  have hc := mn_range c0 c1 d0 d1
  simp only [pixel_Scale.f, clamp_eq, Option.bind_some, pixel_Scale.pr, sc]
  rw [pr_eq ha.1 ha.2.1 k0 k1, pr_eq hb.1 hb.2.1 k0 k1, pr_eq hc.1 hc.2.1 k0 k1, pr_eq d0 d1 k0 k1]
theorem rscale_eq {a b c d k : Int} (a0 : 0 ≤ a) (a1 : a ≤ 255) (b0 : 0 ≤ b) (b1 : b ≤ 255) (c0 : 0 ≤ c) (c1 : c ≤ 255) (d0 : 0 ≤ d) (d1 : d ≤ 255) (k0 : 0 ≤ k) (k1 : k ≤ 255) :
    compositorref08_Scale.f a b c d k = some (sc a b c d k) := by
  have ha := mn_range a0 a1 d0 d1
  have hb := mn_range b0 b1 d0 d1
  have hc := mn_range c0 c1 d0 d1
  simp only [compositorref08_Scale.f, rclamp_eq, Option.bind_some, compositorref08_product.f, sc]
  rw [pr_eq ha.1 ha.2.1 k0 k1, pr_eq hb.1 hb.2.1 k0 k1, pr_eq hc.1 hc.2.1 k0 k1, pr_eq d0 d1 k0 k1]
/-- Blending, without a wrap. -/
def ov (a b c d a' b' c' d' : Int) : Int × Int × Int × Int := (mn a d + pd (mn a' d') (255 - d), mn b d + pd (mn b' d') (255 - d), mn c d + pd (mn c' d') (255 - d), d + pd d' (255 - d))
theorem ov_range {a d a' d' : Int} (a0 : 0 ≤ a) (a1 : a ≤ 255) (d0 : 0 ≤ d) (d1 : d ≤ 255) (a'0 : 0 ≤ a') (a'1 : a' ≤ 255) (d'0 : 0 ≤ d') (d'1 : d' ≤ 255) :
    0 ≤ mn a d + pd (mn a' d') (255 - d) ∧ mn a d + pd (mn a' d') (255 - d) ≤ d + pd d' (255 - d) ∧ 0 ≤ d + pd d' (255 - d) ∧ d + pd d' (255 - d) ≤ 255 := by
  have ha := mn_range a0 a1 d0 d1
  have ha' := mn_range a'0 a'1 d'0 d'1
  have p := pd_range ha'.1 ha'.2.1 (b := 255 - d) (by omega) (by omega)
  have q := pd_range d'0 d'1 (b := 255 - d) (by omega) (by omega)
  have m := pd_mono (b := 255 - d) ha'.2.2.1 (by omega)
  have l : pd d' (255 - d) ≤ 255 - d := by
    have e : d' * (255 - d) ≤ 255 * (255 - d) := Int.mul_le_mul_of_nonneg_right d'1 (by omega)
    unfold pd
    omega
  omega
theorem over_eq {a b c d a' b' c' d' : Int} (a0 : 0 ≤ a) (a1 : a ≤ 255) (b0 : 0 ≤ b) (b1 : b ≤ 255) (c0 : 0 ≤ c) (c1 : c ≤ 255) (d0 : 0 ≤ d) (d1 : d ≤ 255)
    (a'0 : 0 ≤ a') (a'1 : a' ≤ 255) (b'0 : 0 ≤ b') (b'1 : b' ≤ 255) (c'0 : 0 ≤ c') (c'1 : c' ≤ 255) (d'0 : 0 ≤ d') (d'1 : d' ≤ 255) :
    pixel_Over.f a b c d a' b' c' d' = some (ov a b c d a' b' c' d') := by
  have e : (255 - d) % 256 = 255 - d := by omega
  have r1 := ov_range a0 a1 d0 d1 a'0 a'1 d'0 d'1
  have r2 := ov_range b0 b1 d0 d1 b'0 b'1 d'0 d'1
  have r3 := ov_range c0 c1 d0 d1 c'0 c'1 d'0 d'1
  simp only [pixel_Over.f, clamp_eq, Option.bind_some]
  rw [e, scale_eq a'0 a'1 b'0 b'1 c'0 c'1 d'0 d'1 (by omega) (by omega)]
  simp only [Option.bind_some, sc, ov]
  rw [Int.emod_eq_of_lt r1.1 (by omega), Int.emod_eq_of_lt r2.1 (by omega), Int.emod_eq_of_lt r3.1 (by omega), Int.emod_eq_of_lt r3.2.2.1 (by omega)]
theorem rover_eq {a b c d a' b' c' d' : Int} (a0 : 0 ≤ a) (a1 : a ≤ 255) (b0 : 0 ≤ b) (b1 : b ≤ 255) (c0 : 0 ≤ c) (c1 : c ≤ 255) (d0 : 0 ≤ d) (d1 : d ≤ 255)
    (a'0 : 0 ≤ a') (a'1 : a' ≤ 255) (b'0 : 0 ≤ b') (b'1 : b' ≤ 255) (c'0 : 0 ≤ c') (c'1 : c' ≤ 255) (d'0 : 0 ≤ d') (d'1 : d' ≤ 255) :
    compositorref08_Over.f a b c d a' b' c' d' = some (ov a b c d a' b' c' d') := by
  have e : (255 - d) % 256 = 255 - d := by omega
  have r1 := ov_range a0 a1 d0 d1 a'0 a'1 d'0 d'1
  have r2 := ov_range b0 b1 d0 d1 b'0 b'1 d'0 d'1
  have r3 := ov_range c0 c1 d0 d1 c'0 c'1 d'0 d'1
  simp only [compositorref08_Over.f, rclamp_eq, Option.bind_some]
  rw [e, rscale_eq a'0 a'1 b'0 b'1 c'0 c'1 d'0 d'1 (by omega) (by omega)]
  simp only [Option.bind_some, sc, ov]
  rw [Int.emod_eq_of_lt r1.1 (by omega), Int.emod_eq_of_lt r2.1 (by omega), Int.emod_eq_of_lt r3.1 (by omega), Int.emod_eq_of_lt r3.2.2.1 (by omega)]
theorem pd_255 {a : Int} (h0 : 0 ≤ a) (h1 : a ≤ 255) : pd 255 a = a := by unfold pd; omega
theorem premul_eq {r g b k : Int} (r0 : 0 ≤ r) (r1 : r ≤ 255) (g0 : 0 ≤ g) (g1 : g ≤ 255) (b0 : 0 ≤ b) (b1 : b ≤ 255) (k0 : 0 ≤ k) (k1 : k ≤ 255) :
    pixel_Premultiply.f r g b k = some (pd r k, pd g k, pd b k, k) ∧ compositorref08_Premultiply.f r g b k = some (pd r k, pd g k, pd b k, k) := by
  constructor
  · simp only [pixel_Premultiply.f]
    rw [scale_eq r0 r1 g0 g1 b0 b1 (by omega) (by omega) k0 k1]
    have e1 : mn r 255 = r := by unfold mn; split <;> omega
    have e2 : mn g 255 = g := by unfold mn; split <;> omega
    have e3 : mn b 255 = b := by unfold mn; split <;> omega
    simp only [sc, e1, e2, e3, pd_255 k0 k1, Option.bind_some]
  · simp only [compositorref08_Premultiply.f, compositorref08_product.f, Option.bind_some]
    rw [pr_eq r0 r1 k0 k1, pr_eq g0 g1 k0 k1, pr_eq b0 b1 k0 k1]

end Go.Proofs.Ytdhjbdofklglgaa.Pure
