/-
  Small facts on worlds for walks typed by hand: new blocks, drawn worlds.
-/
import Derived.Test.YthpmfhfnkgbkjaaWMore
import Derived.StillTailTactics
import Derived.LoopTactic
import Derived.LoopN
namespace Go.Proofs.YthpmfhfnkgbkjaaHand
set_option linter.unusedVariables false
open Go.RowKit Go.Proofs.YthpmfhfnkgbkjaaW.PrintWords Go.Proofs.YthpmfhfnkgbkjaaW.PrintLast Go.Proofs.YthpmfhfnkgbkjaaW.PrintMore
theorem allocs1 (w : World) (o1 : Obj) : (w.alloc o1).heap[w.heap.size]? = some o1 ∧ Below w.heap.size w (w.alloc o1) := ⟨blk_new w o1, below_alloc (Below.refl _ _) _⟩
theorem allocs2 (w : World) (o1 o2 : Obj) : ((w.alloc o1).alloc o2).heap[w.heap.size]? = some o1 ∧ ((w.alloc o1).alloc o2).heap[w.heap.size + 1]? = some o2 ∧ Below w.heap.size w ((w.alloc o1).alloc o2) :=
  ⟨blk_alloc (allocs1 w o1).1 _, by simpa using blk_new (w.alloc o1) o2, below_alloc (allocs1 w o1).2 _⟩
theorem allocs3 (w : World) (o1 o2 o3 : Obj) : (((w.alloc o1).alloc o2).alloc o3).heap[w.heap.size]? = some o1 ∧ (((w.alloc o1).alloc o2).alloc o3).heap[w.heap.size + 1]? = some o2 ∧ (((w.alloc o1).alloc o2).alloc o3).heap[w.heap.size + 1 + 1]? = some o3 ∧ Below w.heap.size w (((w.alloc o1).alloc o2).alloc o3) :=
  ⟨blk_alloc (allocs2 w o1 o2).1 _, blk_alloc (allocs2 w o1 o2).2.1 _, by simpa using blk_new ((w.alloc o1).alloc o2) o3, below_alloc (allocs2 w o1 o2).2.2 _⟩
theorem cells_drawn {w w' : World} (h : Drawn0 w w') {g : Nat} {o : Obj} (hb : w.heap[g]? = some o) : w'.heap[g]? = some o := by
  obtain ⟨n, rfl⟩ := h
  exact hb
end Go.Proofs.YthpmfhfnkgbkjaaHand
