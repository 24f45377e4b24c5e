/-
  Small facts on worlds for walks typed by hand: new blocks, drawn worlds.
-/
import Derived.Test.YtpihfglghcoojaaDoorWMore
import Derived.StillTailTactics
import Derived.LoopTactic
import Derived.LoopN
namespace Go.Proofs.YtpihfglghcoojaaDoorHand
set_option linter.unusedVariables false
open Go.RowKit Go.Proofs.YtpihfglghcoojaaDoorW.PrintWords Go.Proofs.YtpihfglghcoojaaDoorW.PrintLast Go.Proofs.YtpihfglghcoojaaDoorW.PrintMore
theorem allocs1 (w : World) (o1 : Obj) : (w.alloc o1).heap[w.heap.size]? = some o1 ∧ Below w.heap.size w (w.alloc o1) := ⟨blk_new w o1, below_alloc (Below.refl _ _) _⟩
theorem allocs2 (w : World) (o1 o2 : Obj) : ((w.alloc o1).alloc o2).heap[w.heap.size]? = some o1 ∧ ((w.alloc o1).alloc o2).heap[w.heap.size + 1]? = some o2 ∧ Below w.heap.size w ((w.alloc o1).alloc o2) :=
  ⟨blk_alloc (allocs1 w o1).1 _, by simpa using blk_new (w.alloc o1) o2, below_alloc (allocs1 w o1).2 _⟩
theorem allocs3 (w : World) (o1 o2 o3 : Obj) : (((w.alloc o1).alloc o2).alloc o3).heap[w.heap.size]? = some o1 ∧ (((w.alloc o1).alloc o2).alloc o3).heap[w.heap.size + 1]? = some o2 ∧ (((w.alloc o1).alloc o2).alloc o3).heap[w.heap.size + 1 + 1]? = some o3 ∧ Below w.heap.size w (((w.alloc o1).alloc o2).alloc o3) :=
  ⟨blk_alloc (allocs2 w o1 o2).1 _, blk_alloc (allocs2 w o1 o2).2.1 _, by simpa using blk_new ((w.alloc o1).alloc o2) o3, below_alloc (allocs2 w o1 o2).2.2 _⟩
theorem cells_drawn {w w' : World} (h : Drawn0 w w') {g : Nat} {o : Obj} (hb : w.heap[g]? = some o) : w'.heap[g]? = some o := by
  obtain ⟨n, rfl⟩ := h
  exact hb
end Go.Proofs.YtpihfglghcoojaaDoorHand
namespace Go.Proofs.YtpihfglghcoojaaDoorHand
open Go.RowKit Go.Proofs.YtpihfglghcoojaaDoorW.PrintWords Go.Proofs.YtpihfglghcoojaaDoorW.PrintLast Go.Proofs.YtpihfglghcoojaaDoorW.PrintMore
set_option linter.unusedVariables false
/-- The numbers that the package's table holds. -/
def prods : List Int := [0, 1, 2, 3, 4, 5, 6, 7, 1, 2, 3, 0, 7, 4, 5, 6, 2, 3, 0, 1, 6, 7, 4, 5, 3, 0, 1, 2, 5, 6, 7, 4, 4, 5, 6, 7, 0, 1, 2, 3, 5, 6, 7, 4, 3, 0, 1, 2, 6, 7, 4, 5, 2, 3, 0, 1, 7, 4, 5, 6, 1, 2, 3, 0]
def Tab (w : World) : Prop := ∀ k : Nat, k < 64 → w.cell? ⟨0, k, none⟩ = some (.int .i64 (prods.getD k 0))
theorem tab_below {w w' : World} {B : Nat} (h : Tab w) (hb : Below B w w') (hB : w.heap.size ≤ B) : Tab w' :=
  fun k hk => (hb.cell (Nat.lt_of_lt_of_le (World.block_lt_of_cell? w _ (h k hk)) hB)).trans (h k hk)
/-- The table in a later world of a walk. -/
theorem tb_ {w W w1 : World} (hT : Aside0 (Tab w)) (hB : Aside0 (Below w.heap.size w W))
    (he : Below w.heap.size w W → Below w.heap.size w w1 := by
      intro h_
      repeat (first | (with_reducible first | exact h_ | apply below_alloc | apply pw_below_drewN | apply below_drew1 | refine below_set ?_ (Aside0.out (by assumption))) | exact h_)) : Tab w1 := tab_below hT.out (he hB.out) (Nat.le_refl _)
end Go.Proofs.YtpihfglghcoojaaDoorHand
