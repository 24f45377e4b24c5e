/-
  No cell of these rows narrows 'for every input' (looked for: loops, veiled, ifaces, maps, wideKeys, modest, calm, conditions, laid).
  DERIVED. THE GIVEN ROWS OF THIS SEAT. 8 by the template 'for every input the law returns true; each argument reads behind the call as it read before'; 0 by the template 'total and deterministic' (their statements: YthpmfhfnkgbkjaaTotals.lean).
  GIVEN WITH THE SEED: the statements are not yours to turn. If you find one false, say at which input.
  Laid BY PROGRAM, IN A SANDBOX (cutbox-rows.mjs): the forced cells as the released guide's own fill.sh prints them over the translation af954475a75296b7… (all of the seat's roots in one cut). By AI agents, Wed Nov 11 2026. No macro, syntax, notation, axiom, sorry.
-/
import Derived.Test.YthpmfhfnkgbkjaaChecked
import GoSem.Claim
import GoSem.ClaimJoined
import GoSem.ClaimMapViews
import Derived.JoinedTies
import Derived.KernelRfl
namespace Go.Proofs.Ythpmfhfnkgbkjaa
/- THE CELL 'sum', in the pinned program and in every row, IS THE sha256 OF THE DUMP (.gsa) THAT YthpmfhfnkgbkjaaProg.lean LOADS. Nothing in Lean hashes anything: it is a label: what it is worth is what the hold of that sum in a sandbox is worth. -/
noncomputable def Try.pinned : Pinned := { name := "ythpmfhfnkgbkjaa", sum := "af954475a75296b7a4934a4fc936ddacd9f3fef0b73db4a7d90ab07f99e068e2", checked := Try.checked }
namespace Rows
def none {H : Type} : Left H := { results := [], args := [] }

/-- 'compositorlaw10.ScaleNearest': WHATEVER THE INPUT: true; the input reads as it did. -/
def scaleNearestSpec : ChangeSpec := { name := "scaleNearest", fn := fun _ => fun
  | [d1, d2, d3] => { results := [.lit (.bool true)], args := [d1, d2, d3] }
  | _ => none }
def scaleNearestRow : OpenClaim := { program := "ythpmfhfnkgbkjaa", sum := "af954475a75296b7a4934a4fc936ddacd9f3fef0b73db4a7d90ab07f99e068e2", func := "compositor/compositorlaw10.ScaleNearest", spec := "scaleNearest", unfollowed := true, recurses := true, apart := false }
def ScaleNearestSaid : Prop := scaleNearestRow.holds Try.pinned (OpenSpec.ofChange scaleNearestSpec)

/-- ITS FALSE NEIGHBOUR: 'it returns false'. Refute it at one input. -/
def scaleNearestWrong : ChangeSpec := { name := "scaleNearest", fn := fun _ => fun
  | [d1, d2, d3] => { results := [.lit (.bool false)], args := [d1, d2, d3] }
  | _ => none }
def ScaleNearestWrongFalsely : Prop := scaleNearestRow.holds Try.pinned (OpenSpec.ofChange scaleNearestWrong)

/-- 'compositorlaw10.ScaleBox': WHATEVER THE INPUT: true; the input reads as it did. -/
def scaleBoxSpec : ChangeSpec := { name := "scaleBox", fn := fun _ => fun
  | [d1, d2, d3] => { results := [.lit (.bool true)], args := [d1, d2, d3] }
  | _ => none }
def scaleBoxRow : OpenClaim := { program := "ythpmfhfnkgbkjaa", sum := "af954475a75296b7a4934a4fc936ddacd9f3fef0b73db4a7d90ab07f99e068e2", func := "compositor/compositorlaw10.ScaleBox", spec := "scaleBox", unfollowed := true, recurses := true, apart := false }
def ScaleBoxSaid : Prop := scaleBoxRow.holds Try.pinned (OpenSpec.ofChange scaleBoxSpec)

/-- ITS FALSE NEIGHBOUR: 'it returns false'. Refute it at one input. -/
def scaleBoxWrong : ChangeSpec := { name := "scaleBox", fn := fun _ => fun
  | [d1, d2, d3] => { results := [.lit (.bool false)], args := [d1, d2, d3] }
  | _ => none }
def ScaleBoxWrongFalsely : Prop := scaleBoxRow.holds Try.pinned (OpenSpec.ofChange scaleBoxWrong)

/-- 'compositorlaw10.ScaleBlocks': WHATEVER THE INPUT: true; the input reads as it did. -/
def scaleBlocksSpec : ChangeSpec := { name := "scaleBlocks", fn := fun _ => fun
  | [d1, d2] => { results := [.lit (.bool true)], args := [d1, d2] }
  | _ => none }
def scaleBlocksRow : OpenClaim := { program := "ythpmfhfnkgbkjaa", sum := "af954475a75296b7a4934a4fc936ddacd9f3fef0b73db4a7d90ab07f99e068e2", func := "compositor/compositorlaw10.ScaleBlocks", spec := "scaleBlocks", unfollowed := true, recurses := true, apart := false }
def ScaleBlocksSaid : Prop := scaleBlocksRow.holds Try.pinned (OpenSpec.ofChange scaleBlocksSpec)

/-- ITS FALSE NEIGHBOUR: 'it returns false'. Refute it at one input. -/
def scaleBlocksWrong : ChangeSpec := { name := "scaleBlocks", fn := fun _ => fun
  | [d1, d2] => { results := [.lit (.bool false)], args := [d1, d2] }
  | _ => none }
def ScaleBlocksWrongFalsely : Prop := scaleBlocksRow.holds Try.pinned (OpenSpec.ofChange scaleBlocksWrong)

/-- 'compositorlaw10.ScaleMaps': WHATEVER THE INPUT: true; the input reads as it did. -/
def scaleMapsSpec : ChangeSpec := { name := "scaleMaps", fn := fun _ => fun
  | [d1, d2] => { results := [.lit (.bool true)], args := [d1, d2] }
  | _ => none }
def scaleMapsRow : OpenClaim := { program := "ythpmfhfnkgbkjaa", sum := "af954475a75296b7a4934a4fc936ddacd9f3fef0b73db4a7d90ab07f99e068e2", func := "compositor/compositorlaw10.ScaleMaps", spec := "scaleMaps", unfollowed := true, recurses := true, apart := false }
def ScaleMapsSaid : Prop := scaleMapsRow.holds Try.pinned (OpenSpec.ofChange scaleMapsSpec)

/-- ITS FALSE NEIGHBOUR: 'it returns false'. Refute it at one input. -/
def scaleMapsWrong : ChangeSpec := { name := "scaleMaps", fn := fun _ => fun
  | [d1, d2] => { results := [.lit (.bool false)], args := [d1, d2] }
  | _ => none }
def ScaleMapsWrongFalsely : Prop := scaleMapsRow.holds Try.pinned (OpenSpec.ofChange scaleMapsWrong)

/-- 'compositorlaw10.ScaleRoundTrip': WHATEVER THE INPUT: true; the input reads as it did. -/
def scaleRoundTripSpec : ChangeSpec := { name := "scaleRoundTrip", fn := fun _ => fun
  | [d1, d2] => { results := [.lit (.bool true)], args := [d1, d2] }
  | _ => none }
def scaleRoundTripRow : OpenClaim := { program := "ythpmfhfnkgbkjaa", sum := "af954475a75296b7a4934a4fc936ddacd9f3fef0b73db4a7d90ab07f99e068e2", func := "compositor/compositorlaw10.ScaleRoundTrip", spec := "scaleRoundTrip", unfollowed := true, recurses := true, apart := false }
def ScaleRoundTripSaid : Prop := scaleRoundTripRow.holds Try.pinned (OpenSpec.ofChange scaleRoundTripSpec)

/-- ITS FALSE NEIGHBOUR: 'it returns false'. Refute it at one input. -/
def scaleRoundTripWrong : ChangeSpec := { name := "scaleRoundTrip", fn := fun _ => fun
  | [d1, d2] => { results := [.lit (.bool false)], args := [d1, d2] }
  | _ => none }
def ScaleRoundTripWrongFalsely : Prop := scaleRoundTripRow.holds Try.pinned (OpenSpec.ofChange scaleRoundTripWrong)

/-- 'compositorlaw10.ScaleIdentity': WHATEVER THE INPUT: true; the input reads as it did. -/
def scaleIdentitySpec : ChangeSpec := { name := "scaleIdentity", fn := fun _ => fun
  | [d1, d2] => { results := [.lit (.bool true)], args := [d1, d2] }
  | _ => none }
def scaleIdentityRow : OpenClaim := { program := "ythpmfhfnkgbkjaa", sum := "af954475a75296b7a4934a4fc936ddacd9f3fef0b73db4a7d90ab07f99e068e2", func := "compositor/compositorlaw10.ScaleIdentity", spec := "scaleIdentity", unfollowed := true, recurses := true, apart := false }
def ScaleIdentitySaid : Prop := scaleIdentityRow.holds Try.pinned (OpenSpec.ofChange scaleIdentitySpec)

/-- ITS FALSE NEIGHBOUR: 'it returns false'. Refute it at one input. -/
def scaleIdentityWrong : ChangeSpec := { name := "scaleIdentity", fn := fun _ => fun
  | [d1, d2] => { results := [.lit (.bool false)], args := [d1, d2] }
  | _ => none }
def ScaleIdentityWrongFalsely : Prop := scaleIdentityRow.holds Try.pinned (OpenSpec.ofChange scaleIdentityWrong)

/-- 'compositorlaw10.ScaleUniform': WHATEVER THE INPUT: true; the input reads as it did. -/
def scaleUniformSpec : ChangeSpec := { name := "scaleUniform", fn := fun _ => fun
  | [d1, d2, d3] => { results := [.lit (.bool true)], args := [d1, d2, d3] }
  | _ => none }
def scaleUniformRow : OpenClaim := { program := "ythpmfhfnkgbkjaa", sum := "af954475a75296b7a4934a4fc936ddacd9f3fef0b73db4a7d90ab07f99e068e2", func := "compositor/compositorlaw10.ScaleUniform", spec := "scaleUniform", unfollowed := true, recurses := true, apart := false }
def ScaleUniformSaid : Prop := scaleUniformRow.holds Try.pinned (OpenSpec.ofChange scaleUniformSpec)

/-- ITS FALSE NEIGHBOUR: 'it returns false'. Refute it at one input. -/
def scaleUniformWrong : ChangeSpec := { name := "scaleUniform", fn := fun _ => fun
  | [d1, d2, d3] => { results := [.lit (.bool false)], args := [d1, d2, d3] }
  | _ => none }
def ScaleUniformWrongFalsely : Prop := scaleUniformRow.holds Try.pinned (OpenSpec.ofChange scaleUniformWrong)

/-- 'compositorlaw10.ScaleCovers': WHATEVER THE INPUT: true; the input reads as it did. -/
def scaleCoversSpec : ChangeSpec := { name := "scaleCovers", fn := fun _ => fun
  | [d1, d2, d3] => { results := [.lit (.bool true)], args := [d1, d2, d3] }
  | _ => none }
def scaleCoversRow : OpenClaim := { program := "ythpmfhfnkgbkjaa", sum := "af954475a75296b7a4934a4fc936ddacd9f3fef0b73db4a7d90ab07f99e068e2", func := "compositor/compositorlaw10.ScaleCovers", spec := "scaleCovers", unfollowed := true, recurses := true, apart := false }
def ScaleCoversSaid : Prop := scaleCoversRow.holds Try.pinned (OpenSpec.ofChange scaleCoversSpec)

/-- ITS FALSE NEIGHBOUR: 'it returns false'. Refute it at one input. -/
def scaleCoversWrong : ChangeSpec := { name := "scaleCovers", fn := fun _ => fun
  | [d1, d2, d3] => { results := [.lit (.bool false)], args := [d1, d2, d3] }
  | _ => none }
def ScaleCoversWrongFalsely : Prop := scaleCoversRow.holds Try.pinned (OpenSpec.ofChange scaleCoversWrong)

/- THE SECOND FORM. 'bulk': how many values and letters a reading holds, each counted each time it is reached (what is shared counts as often as it is met; a slice's spare places count too). A statement '..UptoSaid' is the law's where the arguments, and the package variables that the reading takes, are together of bulk at most 1048576: NARROWER than '..Said'. Prove '..Said' where nothing that the law and all that it calls make is longer than what came in: it says more and counts as full. Else prove '..UptoSaid'. A law counts once. -/
mutual
def uptoBulk {H : Type} : DataW H → Nat
  | .lit (.string bytes) => bytes.length + 1
  | .lit _ => 1
  | .nil => 1
  | .ptr d => uptoBulk d + 1
  | .slice elems spare => uptoBulkAll elems + uptoBulkAll spare + 1
  | .agg parts => uptoBulkAll parts + 1
  | .iface _ d => uptoBulk d + 1
  | .map entries => uptoBulkEntries entries + 1
  | .held _ => 1
def uptoBulkAll {H : Type} : List (DataW H) → Nat
  | [] => 0
  | d :: r => uptoBulk d + uptoBulkAll r
def uptoBulkEntries {H : Type} : List (Lit × DataW H) → Nat
  | [] => 0
  | x :: r => uptoBulkEntry x + uptoBulkEntries r
def uptoBulkEntry {H : Type} : Lit × DataW H → Nat
  | (.string bytes, d) => bytes.length + uptoBulk d + 1
  | (_, d) => uptoBulk d + 1
 end
def uptoSmall : (H : Type) → List (DataW H) → Bool := fun _ ds => decide (uptoBulkAll ds ≤ 1048576)
def OpenSpec.upto (s : _root_.Go.ChangeSpec) : _root_.Go.OpenSpec := { _root_.Go.OpenSpec.ofChange s with cond := some uptoSmall }

/-- 'compositorlaw10.ScaleNearest', WHERE WHAT IT READS IS OF BULK AT MOST 1048576: true; the input reads as it did. -/
def scaleNearestUptoRow : OpenClaim := { program := "ythpmfhfnkgbkjaa", sum := "af954475a75296b7a4934a4fc936ddacd9f3fef0b73db4a7d90ab07f99e068e2", func := "compositor/compositorlaw10.ScaleNearest", spec := "scaleNearest", unfollowed := true, recurses := true, apart := false, narrowed := true }
def ScaleNearestUptoSaid : Prop := scaleNearestUptoRow.holds Try.pinned (OpenSpec.upto scaleNearestSpec)

/-- 'compositorlaw10.ScaleBox', WHERE WHAT IT READS IS OF BULK AT MOST 1048576: true; the input reads as it did. -/
def scaleBoxUptoRow : OpenClaim := { program := "ythpmfhfnkgbkjaa", sum := "af954475a75296b7a4934a4fc936ddacd9f3fef0b73db4a7d90ab07f99e068e2", func := "compositor/compositorlaw10.ScaleBox", spec := "scaleBox", unfollowed := true, recurses := true, apart := false, narrowed := true }
def ScaleBoxUptoSaid : Prop := scaleBoxUptoRow.holds Try.pinned (OpenSpec.upto scaleBoxSpec)

/-- 'compositorlaw10.ScaleBlocks', WHERE WHAT IT READS IS OF BULK AT MOST 1048576: true; the input reads as it did. -/
def scaleBlocksUptoRow : OpenClaim := { program := "ythpmfhfnkgbkjaa", sum := "af954475a75296b7a4934a4fc936ddacd9f3fef0b73db4a7d90ab07f99e068e2", func := "compositor/compositorlaw10.ScaleBlocks", spec := "scaleBlocks", unfollowed := true, recurses := true, apart := false, narrowed := true }
def ScaleBlocksUptoSaid : Prop := scaleBlocksUptoRow.holds Try.pinned (OpenSpec.upto scaleBlocksSpec)

/-- 'compositorlaw10.ScaleMaps', WHERE WHAT IT READS IS OF BULK AT MOST 1048576: true; the input reads as it did. -/
def scaleMapsUptoRow : OpenClaim := { program := "ythpmfhfnkgbkjaa", sum := "af954475a75296b7a4934a4fc936ddacd9f3fef0b73db4a7d90ab07f99e068e2", func := "compositor/compositorlaw10.ScaleMaps", spec := "scaleMaps", unfollowed := true, recurses := true, apart := false, narrowed := true }
def ScaleMapsUptoSaid : Prop := scaleMapsUptoRow.holds Try.pinned (OpenSpec.upto scaleMapsSpec)

/-- 'compositorlaw10.ScaleRoundTrip', WHERE WHAT IT READS IS OF BULK AT MOST 1048576: true; the input reads as it did. -/
def scaleRoundTripUptoRow : OpenClaim := { program := "ythpmfhfnkgbkjaa", sum := "af954475a75296b7a4934a4fc936ddacd9f3fef0b73db4a7d90ab07f99e068e2", func := "compositor/compositorlaw10.ScaleRoundTrip", spec := "scaleRoundTrip", unfollowed := true, recurses := true, apart := false, narrowed := true }
def ScaleRoundTripUptoSaid : Prop := scaleRoundTripUptoRow.holds Try.pinned (OpenSpec.upto scaleRoundTripSpec)

/-- 'compositorlaw10.ScaleIdentity', WHERE WHAT IT READS IS OF BULK AT MOST 1048576: true; the input reads as it did. -/
def scaleIdentityUptoRow : OpenClaim := { program := "ythpmfhfnkgbkjaa", sum := "af954475a75296b7a4934a4fc936ddacd9f3fef0b73db4a7d90ab07f99e068e2", func := "compositor/compositorlaw10.ScaleIdentity", spec := "scaleIdentity", unfollowed := true, recurses := true, apart := false, narrowed := true }
def ScaleIdentityUptoSaid : Prop := scaleIdentityUptoRow.holds Try.pinned (OpenSpec.upto scaleIdentitySpec)

/-- 'compositorlaw10.ScaleUniform', WHERE WHAT IT READS IS OF BULK AT MOST 1048576: true; the input reads as it did. -/
def scaleUniformUptoRow : OpenClaim := { program := "ythpmfhfnkgbkjaa", sum := "af954475a75296b7a4934a4fc936ddacd9f3fef0b73db4a7d90ab07f99e068e2", func := "compositor/compositorlaw10.ScaleUniform", spec := "scaleUniform", unfollowed := true, recurses := true, apart := false, narrowed := true }
def ScaleUniformUptoSaid : Prop := scaleUniformUptoRow.holds Try.pinned (OpenSpec.upto scaleUniformSpec)

/-- 'compositorlaw10.ScaleCovers', WHERE WHAT IT READS IS OF BULK AT MOST 1048576: true; the input reads as it did. -/
def scaleCoversUptoRow : OpenClaim := { program := "ythpmfhfnkgbkjaa", sum := "af954475a75296b7a4934a4fc936ddacd9f3fef0b73db4a7d90ab07f99e068e2", func := "compositor/compositorlaw10.ScaleCovers", spec := "scaleCovers", unfollowed := true, recurses := true, apart := false, narrowed := true }
def ScaleCoversUptoSaid : Prop := scaleCoversUptoRow.holds Try.pinned (OpenSpec.upto scaleCoversSpec)

end Rows
end Go.Proofs.Ythpmfhfnkgbkjaa
