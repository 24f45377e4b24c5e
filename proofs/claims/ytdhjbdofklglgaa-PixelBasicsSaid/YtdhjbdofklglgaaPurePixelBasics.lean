/-
  Plain laws (numbers and lists) for the statement PixelBasics: no program in sight.
-/
import Derived.Test.YtdhjbdofklglgaaAllx0
import Derived.Test.YtdhjbdofklglgaaAllx4
import Derived.Test.YtdhjbdofklglgaaAllx5
import Derived.Test.YtdhjbdofklglgaaPurePack
namespace Go.Proofs.Ytdhjbdofklglgaa.Pure
open Go.RowKit Go.Proofs.YtdhjbdofklglgaaW.PrintWords Go.Proofs.YtdhjbdofklglgaaW.PrintMore Go.Proofs.Ytdhjbdofklglgaa.All
set_option linter.unusedVariables false

theorem PixelBasics (x0 : S23) (x1 : Int) (ok0 : ((Lit.int .u8 x0.f0).wf = true) ∧ ((Lit.int .u8 x0.f1).wf = true) ∧ ((Lit.int .u8 x0.f2).wf = true) ∧ ((Lit.int .u8 x0.f3).wf = true)) (ok1 : (Lit.int .u32 x1).wf = true) :
    compositorlaw08_PixelBasics.f x0.f0 x0.f1 x0.f2 x0.f3 x1 = some true := by
  obtain ⟨a, b, c, d⟩ := x0
  obtain ⟨a0, a1⟩ := u8 ok0.1
  obtain ⟨b0, b1⟩ := u8 ok0.2.1
  obtain ⟨c0, c1⟩ := u8 ok0.2.2.1
  obtain ⟨d0, d1⟩ := u8 ok0.2.2.2
  obtain ⟨n0, n1⟩ := u32 ok1
  unfold compositorlaw08_PixelBasics.f
  simp only at *
  rw [valid_eq, rvalid_eq, pack_eq a0 a1 b0 b1 c0 c1 d0 d1, rpack_eq a0 a1 b0 b1 c0 c1 d0 d1, unpack_eq, runpack_eq n0, example_holds, clamp_eq, rclamp_eq]
  simp [pixel_Opaque.f, compositorref08_Opaque.f]

end Go.Proofs.Ytdhjbdofklglgaa.Pure
