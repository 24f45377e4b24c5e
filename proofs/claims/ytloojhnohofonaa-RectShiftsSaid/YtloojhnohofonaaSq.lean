/-
  A block carried over a call: the shape that the printed walks use, as lemmas (a shorter text).
-/
import Derived.Test.YtloojhnohofonaaWMore
namespace Go.Proofs.YtloojhnohofonaaSq
set_option linter.unusedVariables false
open Go.RowKit Go.Proofs.YtloojhnohofonaaW.PrintWords Go.Proofs.YtloojhnohofonaaW.PrintLast Go.Proofs.YtloojhnohofonaaW.PrintMore
theorem bq {w w1 : World} {g : Nat} {o : Obj} (h : Aside0 (w.heap[g]? = some o))
    (he : w.heap[g]? = some o → w1.heap[g]? = some o := by intro h_; (with_reducible repeat (first | refine blk_drewN ?_ _ | refine blk_drew ?_ | refine blk_alloc ?_ _)); exact h_) : w1.heap[g]? = some o := he h.out
theorem bb {w w1 w2 : World} {g : Nat} {o : Obj} (h : Aside0 (w.heap[g]? = some o)) (hb : Below w1.heap.size w1 w2)
    (he : w.heap[g]? = some o → w1.heap[g]? = some o := by intro h_; (with_reducible repeat (first | refine blk_drewN ?_ _ | refine blk_drew ?_ | refine blk_alloc ?_ _)); exact h_) : Aside0 (w2.heap[g]? = some o) := Aside0.mk (blk_below (he h.out) hb)
end Go.Proofs.YtloojhnohofonaaSq
