/-
  No cell of these rows narrows 'for every input' (looked for: loops, veiled, ifaces, maps, wideKeys, modest, calm, conditions, laid).
  DERIVED. THE GIVEN ROWS OF THIS SEAT. 8 by the template 'for every input the law returns true; each argument reads behind the call as it read before'; 0 by the template 'total and deterministic' (their statements: YtloojhnohofonaaTotals.lean).
  GIVEN WITH THE SEED: the statements are not yours to turn. If you find one false, say at which input.
  Laid BY PROGRAM, IN A SANDBOX (cutbox-rows.mjs): the forced cells as the released guide's own fill.sh prints them over the translation 98a0d436ecc90801… (all of the seat's roots in one cut). By AI agents, Wed Nov 11 2026. No macro, syntax, notation, axiom, sorry.
-/
import Derived.Test.YtloojhnohofonaaChecked
import GoSem.Claim
import GoSem.ClaimJoined
import GoSem.ClaimMapViews
import Derived.JoinedTies
import Derived.KernelRfl
namespace Go.Proofs.Ytloojhnohofonaa
/- THE CELL 'sum', in the pinned program and in every row, IS THE sha256 OF THE DUMP (.gsa) THAT YtloojhnohofonaaProg.lean LOADS. Nothing in Lean hashes anything: it is a label: what it is worth is what the hold of that sum in a sandbox is worth. -/
noncomputable def Try.pinned : Pinned := { name := "ytloojhnohofonaa", sum := "98a0d436ecc9080120108c0c88144bba5f57013a38e48b5755b7c703a26d7990", checked := Try.checked }
namespace Rows
def none {H : Type} : Left H := { results := [], args := [] }

/-- 'compositorlaw04.RectMoves': WHATEVER THE INPUT: true; the input reads as it did. -/
def rectMovesSpec : ChangeSpec := { name := "rectMoves", fn := fun _ => fun
  | [d1, d2, d3] => { results := [.lit (.bool true)], args := [d1, d2, d3] }
  | _ => none }
def rectMovesRow : OpenClaim := { program := "ytloojhnohofonaa", sum := "98a0d436ecc9080120108c0c88144bba5f57013a38e48b5755b7c703a26d7990", func := "compositor/compositorlaw04.RectMoves", spec := "rectMoves", unfollowed := true, recurses := true, apart := false }
def RectMovesSaid : Prop := rectMovesRow.holds Try.pinned (OpenSpec.ofChange rectMovesSpec)

/-- ITS FALSE NEIGHBOUR: 'it returns false'. Refute it at one input. -/
def rectMovesWrong : ChangeSpec := { name := "rectMoves", fn := fun _ => fun
  | [d1, d2, d3] => { results := [.lit (.bool false)], args := [d1, d2, d3] }
  | _ => none }
def RectMovesWrongFalsely : Prop := rectMovesRow.holds Try.pinned (OpenSpec.ofChange rectMovesWrong)

/-- 'compositorlaw04.RectShifts': WHATEVER THE INPUT: true; the input reads as it did. -/
def rectShiftsSpec : ChangeSpec := { name := "rectShifts", fn := fun _ => fun
  | [d1, d2, d3] => { results := [.lit (.bool true)], args := [d1, d2, d3] }
  | _ => none }
def rectShiftsRow : OpenClaim := { program := "ytloojhnohofonaa", sum := "98a0d436ecc9080120108c0c88144bba5f57013a38e48b5755b7c703a26d7990", func := "compositor/compositorlaw04.RectShifts", spec := "rectShifts", unfollowed := true, recurses := true, apart := false }
def RectShiftsSaid : Prop := rectShiftsRow.holds Try.pinned (OpenSpec.ofChange rectShiftsSpec)

/-- ITS FALSE NEIGHBOUR: 'it returns false'. Refute it at one input. -/
def rectShiftsWrong : ChangeSpec := { name := "rectShifts", fn := fun _ => fun
  | [d1, d2, d3] => { results := [.lit (.bool false)], args := [d1, d2, d3] }
  | _ => none }
def RectShiftsWrongFalsely : Prop := rectShiftsRow.holds Try.pinned (OpenSpec.ofChange rectShiftsWrong)

/-- 'compositorlaw04.RectTells': WHATEVER THE INPUT: true; the input reads as it did. -/
def rectTellsSpec : ChangeSpec := { name := "rectTells", fn := fun _ => fun
  | [d1, d2, d3] => { results := [.lit (.bool true)], args := [d1, d2, d3] }
  | _ => none }
def rectTellsRow : OpenClaim := { program := "ytloojhnohofonaa", sum := "98a0d436ecc9080120108c0c88144bba5f57013a38e48b5755b7c703a26d7990", func := "compositor/compositorlaw04.RectTells", spec := "rectTells", unfollowed := true, recurses := true, apart := false }
def RectTellsSaid : Prop := rectTellsRow.holds Try.pinned (OpenSpec.ofChange rectTellsSpec)

/-- ITS FALSE NEIGHBOUR: 'it returns false'. Refute it at one input. -/
def rectTellsWrong : ChangeSpec := { name := "rectTells", fn := fun _ => fun
  | [d1, d2, d3] => { results := [.lit (.bool false)], args := [d1, d2, d3] }
  | _ => none }
def RectTellsWrongFalsely : Prop := rectTellsRow.holds Try.pinned (OpenSpec.ofChange rectTellsWrong)

/-- 'compositorlaw04.RectCombines': WHATEVER THE INPUT: true; the input reads as it did. -/
def rectCombinesSpec : ChangeSpec := { name := "rectCombines", fn := fun _ => fun
  | [d1, d2] => { results := [.lit (.bool true)], args := [d1, d2] }
  | _ => none }
def rectCombinesRow : OpenClaim := { program := "ytloojhnohofonaa", sum := "98a0d436ecc9080120108c0c88144bba5f57013a38e48b5755b7c703a26d7990", func := "compositor/compositorlaw04.RectCombines", spec := "rectCombines", unfollowed := true, recurses := true, apart := false }
def RectCombinesSaid : Prop := rectCombinesRow.holds Try.pinned (OpenSpec.ofChange rectCombinesSpec)

/-- ITS FALSE NEIGHBOUR: 'it returns false'. Refute it at one input. -/
def rectCombinesWrong : ChangeSpec := { name := "rectCombines", fn := fun _ => fun
  | [d1, d2] => { results := [.lit (.bool false)], args := [d1, d2] }
  | _ => none }
def RectCombinesWrongFalsely : Prop := rectCombinesRow.holds Try.pinned (OpenSpec.ofChange rectCombinesWrong)

/-- 'compositorlaw04.RectSubtract': WHATEVER THE INPUT: true; the input reads as it did. -/
def rectSubtractSpec : ChangeSpec := { name := "rectSubtract", fn := fun _ => fun
  | [d1, d2] => { results := [.lit (.bool true)], args := [d1, d2] }
  | _ => none }
def rectSubtractRow : OpenClaim := { program := "ytloojhnohofonaa", sum := "98a0d436ecc9080120108c0c88144bba5f57013a38e48b5755b7c703a26d7990", func := "compositor/compositorlaw04.RectSubtract", spec := "rectSubtract", unfollowed := true, recurses := true, apart := false }
def RectSubtractSaid : Prop := rectSubtractRow.holds Try.pinned (OpenSpec.ofChange rectSubtractSpec)

/-- ITS FALSE NEIGHBOUR: 'it returns false'. Refute it at one input. -/
def rectSubtractWrong : ChangeSpec := { name := "rectSubtract", fn := fun _ => fun
  | [d1, d2] => { results := [.lit (.bool false)], args := [d1, d2] }
  | _ => none }
def RectSubtractWrongFalsely : Prop := rectSubtractRow.holds Try.pinned (OpenSpec.ofChange rectSubtractWrong)

/-- 'compositorlaw04.RectLattice': WHATEVER THE INPUT: true; the input reads as it did. -/
def rectLatticeSpec : ChangeSpec := { name := "rectLattice", fn := fun _ => fun
  | [d1, d2, d3] => { results := [.lit (.bool true)], args := [d1, d2, d3] }
  | _ => none }
def rectLatticeRow : OpenClaim := { program := "ytloojhnohofonaa", sum := "98a0d436ecc9080120108c0c88144bba5f57013a38e48b5755b7c703a26d7990", func := "compositor/compositorlaw04.RectLattice", spec := "rectLattice", unfollowed := true, recurses := true, apart := false }
def RectLatticeSaid : Prop := rectLatticeRow.holds Try.pinned (OpenSpec.ofChange rectLatticeSpec)

/-- ITS FALSE NEIGHBOUR: 'it returns false'. Refute it at one input. -/
def rectLatticeWrong : ChangeSpec := { name := "rectLattice", fn := fun _ => fun
  | [d1, d2, d3] => { results := [.lit (.bool false)], args := [d1, d2, d3] }
  | _ => none }
def RectLatticeWrongFalsely : Prop := rectLatticeRow.holds Try.pinned (OpenSpec.ofChange rectLatticeWrong)

/-- 'compositorlaw04.RectNearest': WHATEVER THE INPUT: true; the input reads as it did. -/
def rectNearestSpec : ChangeSpec := { name := "rectNearest", fn := fun _ => fun
  | [d1, d2, d3] => { results := [.lit (.bool true)], args := [d1, d2, d3] }
  | _ => none }
def rectNearestRow : OpenClaim := { program := "ytloojhnohofonaa", sum := "98a0d436ecc9080120108c0c88144bba5f57013a38e48b5755b7c703a26d7990", func := "compositor/compositorlaw04.RectNearest", spec := "rectNearest", unfollowed := true, recurses := true, apart := false }
def RectNearestSaid : Prop := rectNearestRow.holds Try.pinned (OpenSpec.ofChange rectNearestSpec)

/-- ITS FALSE NEIGHBOUR: 'it returns false'. Refute it at one input. -/
def rectNearestWrong : ChangeSpec := { name := "rectNearest", fn := fun _ => fun
  | [d1, d2, d3] => { results := [.lit (.bool false)], args := [d1, d2, d3] }
  | _ => none }
def RectNearestWrongFalsely : Prop := rectNearestRow.holds Try.pinned (OpenSpec.ofChange rectNearestWrong)

/-- 'compositorlaw04.RectPoints': WHATEVER THE INPUT: true; the input reads as it did. -/
def rectPointsSpec : ChangeSpec := { name := "rectPoints", fn := fun _ => fun
  | [d1, d2, d3] => { results := [.lit (.bool true)], args := [d1, d2, d3] }
  | _ => none }
def rectPointsRow : OpenClaim := { program := "ytloojhnohofonaa", sum := "98a0d436ecc9080120108c0c88144bba5f57013a38e48b5755b7c703a26d7990", func := "compositor/compositorlaw04.RectPoints", spec := "rectPoints", unfollowed := true, recurses := true, apart := false }
def RectPointsSaid : Prop := rectPointsRow.holds Try.pinned (OpenSpec.ofChange rectPointsSpec)

/-- ITS FALSE NEIGHBOUR: 'it returns false'. Refute it at one input. -/
def rectPointsWrong : ChangeSpec := { name := "rectPoints", fn := fun _ => fun
  | [d1, d2, d3] => { results := [.lit (.bool false)], args := [d1, d2, d3] }
  | _ => none }
def RectPointsWrongFalsely : Prop := rectPointsRow.holds Try.pinned (OpenSpec.ofChange rectPointsWrong)

/- THE SECOND FORM. 'bulk': how many values and letters a reading holds, each counted each time it is reached (what is shared counts as often as it is met; a slice's spare places count too). A statement '..UptoSaid' is the law's where the arguments, and the package variables that the reading takes, are together of bulk at most 1048576: NARROWER than '..Said'. Prove '..Said' where nothing that the law and all that it calls make is longer than what came in: it says more and counts as full. Else prove '..UptoSaid'. A law counts once. -/
mutual
def uptoBulk {H : Type} : DataW H → Nat
  | .lit (.string bytes) => bytes.length + 1
  | .lit _ => 1
  | .nil => 1
  | .ptr d => uptoBulk d + 1
  | .slice elems spare => uptoBulkAll elems + uptoBulkAll spare + 1
  | .agg parts => uptoBulkAll parts + 1
  | .iface _ d => uptoBulk d + 1
  | .map entries => uptoBulkEntries entries + 1
  | .held _ => 1
def uptoBulkAll {H : Type} : List (DataW H) → Nat
  | [] => 0
  | d :: r => uptoBulk d + uptoBulkAll r
def uptoBulkEntries {H : Type} : List (Lit × DataW H) → Nat
  | [] => 0
  | x :: r => uptoBulkEntry x + uptoBulkEntries r
def uptoBulkEntry {H : Type} : Lit × DataW H → Nat
  | (.string bytes, d) => bytes.length + uptoBulk d + 1
  | (_, d) => uptoBulk d + 1
 end
def uptoSmall : (H : Type) → List (DataW H) → Bool := fun _ ds => decide (uptoBulkAll ds ≤ 1048576)
def OpenSpec.upto (s : _root_.Go.ChangeSpec) : _root_.Go.OpenSpec := { _root_.Go.OpenSpec.ofChange s with cond := some uptoSmall }

/-- 'compositorlaw04.RectMoves', WHERE WHAT IT READS IS OF BULK AT MOST 1048576: true; the input reads as it did. -/
def rectMovesUptoRow : OpenClaim := { program := "ytloojhnohofonaa", sum := "98a0d436ecc9080120108c0c88144bba5f57013a38e48b5755b7c703a26d7990", func := "compositor/compositorlaw04.RectMoves", spec := "rectMoves", unfollowed := true, recurses := true, apart := false, narrowed := true }
def RectMovesUptoSaid : Prop := rectMovesUptoRow.holds Try.pinned (OpenSpec.upto rectMovesSpec)

/-- 'compositorlaw04.RectShifts', WHERE WHAT IT READS IS OF BULK AT MOST 1048576: true; the input reads as it did. -/
def rectShiftsUptoRow : OpenClaim := { program := "ytloojhnohofonaa", sum := "98a0d436ecc9080120108c0c88144bba5f57013a38e48b5755b7c703a26d7990", func := "compositor/compositorlaw04.RectShifts", spec := "rectShifts", unfollowed := true, recurses := true, apart := false, narrowed := true }
def RectShiftsUptoSaid : Prop := rectShiftsUptoRow.holds Try.pinned (OpenSpec.upto rectShiftsSpec)

/-- 'compositorlaw04.RectTells', WHERE WHAT IT READS IS OF BULK AT MOST 1048576: true; the input reads as it did. -/
def rectTellsUptoRow : OpenClaim := { program := "ytloojhnohofonaa", sum := "98a0d436ecc9080120108c0c88144bba5f57013a38e48b5755b7c703a26d7990", func := "compositor/compositorlaw04.RectTells", spec := "rectTells", unfollowed := true, recurses := true, apart := false, narrowed := true }
def RectTellsUptoSaid : Prop := rectTellsUptoRow.holds Try.pinned (OpenSpec.upto rectTellsSpec)

/-- 'compositorlaw04.RectCombines', WHERE WHAT IT READS IS OF BULK AT MOST 1048576: true; the input reads as it did. -/
def rectCombinesUptoRow : OpenClaim := { program := "ytloojhnohofonaa", sum := "98a0d436ecc9080120108c0c88144bba5f57013a38e48b5755b7c703a26d7990", func := "compositor/compositorlaw04.RectCombines", spec := "rectCombines", unfollowed := true, recurses := true, apart := false, narrowed := true }
def RectCombinesUptoSaid : Prop := rectCombinesUptoRow.holds Try.pinned (OpenSpec.upto rectCombinesSpec)

/-- 'compositorlaw04.RectSubtract', WHERE WHAT IT READS IS OF BULK AT MOST 1048576: true; the input reads as it did. -/
def rectSubtractUptoRow : OpenClaim := { program := "ytloojhnohofonaa", sum := "98a0d436ecc9080120108c0c88144bba5f57013a38e48b5755b7c703a26d7990", func := "compositor/compositorlaw04.RectSubtract", spec := "rectSubtract", unfollowed := true, recurses := true, apart := false, narrowed := true }
def RectSubtractUptoSaid : Prop := rectSubtractUptoRow.holds Try.pinned (OpenSpec.upto rectSubtractSpec)

/-- 'compositorlaw04.RectLattice', WHERE WHAT IT READS IS OF BULK AT MOST 1048576: true; the input reads as it did. -/
def rectLatticeUptoRow : OpenClaim := { program := "ytloojhnohofonaa", sum := "98a0d436ecc9080120108c0c88144bba5f57013a38e48b5755b7c703a26d7990", func := "compositor/compositorlaw04.RectLattice", spec := "rectLattice", unfollowed := true, recurses := true, apart := false, narrowed := true }
def RectLatticeUptoSaid : Prop := rectLatticeUptoRow.holds Try.pinned (OpenSpec.upto rectLatticeSpec)

/-- 'compositorlaw04.RectNearest', WHERE WHAT IT READS IS OF BULK AT MOST 1048576: true; the input reads as it did. -/
def rectNearestUptoRow : OpenClaim := { program := "ytloojhnohofonaa", sum := "98a0d436ecc9080120108c0c88144bba5f57013a38e48b5755b7c703a26d7990", func := "compositor/compositorlaw04.RectNearest", spec := "rectNearest", unfollowed := true, recurses := true, apart := false, narrowed := true }
def RectNearestUptoSaid : Prop := rectNearestUptoRow.holds Try.pinned (OpenSpec.upto rectNearestSpec)

/-- 'compositorlaw04.RectPoints', WHERE WHAT IT READS IS OF BULK AT MOST 1048576: true; the input reads as it did. -/
def rectPointsUptoRow : OpenClaim := { program := "ytloojhnohofonaa", sum := "98a0d436ecc9080120108c0c88144bba5f57013a38e48b5755b7c703a26d7990", func := "compositor/compositorlaw04.RectPoints", spec := "rectPoints", unfollowed := true, recurses := true, apart := false, narrowed := true }
def RectPointsUptoSaid : Prop := rectPointsUptoRow.holds Try.pinned (OpenSpec.upto rectPointsSpec)

end Rows
end Go.Proofs.Ytloojhnohofonaa
