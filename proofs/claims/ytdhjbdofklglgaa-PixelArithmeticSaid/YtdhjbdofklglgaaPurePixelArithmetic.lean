/-
  Plain laws (numbers and lists) for the statement PixelArithmetic: no program in sight.
-/
import Derived.Test.YtdhjbdofklglgaaAllx0
import Derived.Test.YtdhjbdofklglgaaAllx3
import Derived.Test.YtdhjbdofklglgaaPureBase
namespace Go.Proofs.Ytdhjbdofklglgaa.Pure
open Go.RowKit Go.Proofs.YtdhjbdofklglgaaW.PrintWords Go.Proofs.YtdhjbdofklglgaaW.PrintMore Go.Proofs.Ytdhjbdofklglgaa.All
set_option linter.unusedVariables false
theorem PixelArithmetic (x0 : S23) (x1 : S23) (x2 : Int) (ok0 : ((Lit.int .u8 x0.f0).wf = true) ∧ ((Lit.int .u8 x0.f1).wf = true) ∧ ((Lit.int .u8 x0.f2).wf = true) ∧ ((Lit.int .u8 x0.f3).wf = true)) (ok1 : ((Lit.int .u8 x1.f0).wf = true) ∧ ((Lit.int .u8 x1.f1).wf = true) ∧ ((Lit.int .u8 x1.f2).wf = true) ∧ ((Lit.int .u8 x1.f3).wf = true)) (ok2 : (Lit.int .u8 x2).wf = true) :
    compositorlaw08_PixelArithmetic.f x0.f0 x0.f1 x0.f2 x0.f3 x1.f0 x1.f1 x1.f2 x1.f3 x2 = some true := by
  obtain ⟨a, b, c, d⟩ := x0
  obtain ⟨a', b', c', d'⟩ := x1
  obtain ⟨a0, a1⟩ := u8 ok0.1
  obtain ⟨b0, b1⟩ := u8 ok0.2.1
  obtain ⟨c0, c1⟩ := u8 ok0.2.2.1
  obtain ⟨d0, d1⟩ := u8 ok0.2.2.2
  obtain ⟨a'0, a'1⟩ := u8 ok1.1
  obtain ⟨b'0, b'1⟩ := u8 ok1.2.1
  obtain ⟨c'0, c'1⟩ := u8 ok1.2.2.1
  obtain ⟨d'0, d'1⟩ := u8 ok1.2.2.2
  obtain ⟨k0, k1⟩ := u8 ok2
  unfold compositorlaw08_PixelArithmetic.f
  simp only at *
  rw [(premul_eq a0 a1 b0 b1 c0 c1 k0 k1).1, (premul_eq a0 a1 b0 b1 c0 c1 k0 k1).2, scale_eq a0 a1 b0 b1 c0 c1 d0 d1 k0 k1, rscale_eq a0 a1 b0 b1 c0 c1 d0 d1 k0 k1,
    over_eq a0 a1 b0 b1 c0 c1 d0 d1 a'0 a'1 b'0 b'1 c'0 c'1 d'0 d'1, rover_eq a0 a1 b0 b1 c0 c1 d0 d1 a'0 a'1 b'0 b'1 c'0 c'1 d'0 d'1, example_holds]
  simp

end Go.Proofs.Ytdhjbdofklglgaa.Pure
