import Derived.Test.YtloojhnohofonaaAllx0
namespace Go.Proofs.Ytloojhnohofonaa.All
open Go.RowKit Go.Proofs.YtloojhnohofonaaW.PrintWords Go.Proofs.YtloojhnohofonaaW.PrintLast Go.Proofs.YtloojhnohofonaaW.PrintMore
set_option linter.unusedVariables false
structure S30 where
  f0 : Int
  f1 : Int
def k30 : Kd S30 := Kd.iso (Kd.pair (Kd.int .i64) (Kd.int .i64)) (fun x : S30 => (x.f0, x.f1))
theorem k30_open {w : World} {x : S30} {cs : List Value} (h : k30.K w x cs) : cs = [.int .i64 x.f0, .int .i64 x.f1] := by
  obtain ⟨_, _, rfl, rfl, rfl⟩ := h
  exact rfl
end Go.Proofs.Ytloojhnohofonaa.All
