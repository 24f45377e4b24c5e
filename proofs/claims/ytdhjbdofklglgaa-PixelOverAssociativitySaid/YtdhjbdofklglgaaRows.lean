/-
  No cell of these rows narrows 'for every input' (looked for: loops, veiled, ifaces, maps, wideKeys, modest, calm, conditions, laid).
  DERIVED. THE GIVEN ROWS OF THIS SEAT. 6 by the template 'for every input the law returns true; each argument reads behind the call as it read before'; 0 by the template 'total and deterministic' (their statements: YtdhjbdofklglgaaTotals.lean).
  GIVEN WITH THE SEED: the statements are not yours to turn. If you find one false, say at which input.
  Laid BY PROGRAM, IN A SANDBOX (cutbox-rows.mjs): the forced cells as the released guide's own fill.sh prints them over the translation 64bfa63972c9f0e5… (all of the seat's roots in one cut). By AI agents, Wed Nov 11 2026. No macro, syntax, notation, axiom, sorry.
-/
import Derived.Test.YtdhjbdofklglgaaChecked
import GoSem.Claim
import GoSem.ClaimJoined
import GoSem.ClaimMapViews
import Derived.JoinedTies
import Derived.KernelRfl
namespace Go.Proofs.Ytdhjbdofklglgaa
/- THE CELL 'sum', in the pinned program and in every row, IS THE sha256 OF THE DUMP (.gsa) THAT YtdhjbdofklglgaaProg.lean LOADS. Nothing in Lean hashes anything: it is a label: what it is worth is what the hold of that sum in a sandbox is worth. -/
noncomputable def Try.pinned : Pinned := { name := "ytdhjbdofklglgaa", sum := "64bfa63972c9f0e5bc57c9455a0790e7f42c8ba24f9110889526aad30091568a", checked := Try.checked }
namespace Rows
def none {H : Type} : Left H := { results := [], args := [] }

/-- 'compositorlaw08.PixelArithmetic': WHATEVER THE INPUT: true; the input reads as it did. -/
def pixelArithmeticSpec : ChangeSpec := { name := "pixelArithmetic", fn := fun _ => fun
  | [d1, d2, d3] => { results := [.lit (.bool true)], args := [d1, d2, d3] }
  | _ => none }
def pixelArithmeticRow : OpenClaim := { program := "ytdhjbdofklglgaa", sum := "64bfa63972c9f0e5bc57c9455a0790e7f42c8ba24f9110889526aad30091568a", func := "compositor/compositorlaw08.PixelArithmetic", spec := "pixelArithmetic", unfollowed := true, recurses := true, apart := false }
def PixelArithmeticSaid : Prop := pixelArithmeticRow.holds Try.pinned (OpenSpec.ofChange pixelArithmeticSpec)

/-- ITS FALSE NEIGHBOUR: 'it returns false'. Refute it at one input. -/
def pixelArithmeticWrong : ChangeSpec := { name := "pixelArithmetic", fn := fun _ => fun
  | [d1, d2, d3] => { results := [.lit (.bool false)], args := [d1, d2, d3] }
  | _ => none }
def PixelArithmeticWrongFalsely : Prop := pixelArithmeticRow.holds Try.pinned (OpenSpec.ofChange pixelArithmeticWrong)

/-- 'compositorlaw08.PixelAverage': WHATEVER THE INPUT: true; the input reads as it did. -/
def pixelAverageSpec : ChangeSpec := { name := "pixelAverage", fn := fun _ => fun
  | [d1, d2, d3] => { results := [.lit (.bool true)], args := [d1, d2, d3] }
  | _ => none }
def pixelAverageRow : OpenClaim := { program := "ytdhjbdofklglgaa", sum := "64bfa63972c9f0e5bc57c9455a0790e7f42c8ba24f9110889526aad30091568a", func := "compositor/compositorlaw08.PixelAverage", spec := "pixelAverage", unfollowed := true, recurses := true, apart := false }
def PixelAverageSaid : Prop := pixelAverageRow.holds Try.pinned (OpenSpec.ofChange pixelAverageSpec)

/-- ITS FALSE NEIGHBOUR: 'it returns false'. Refute it at one input. -/
def pixelAverageWrong : ChangeSpec := { name := "pixelAverage", fn := fun _ => fun
  | [d1, d2, d3] => { results := [.lit (.bool false)], args := [d1, d2, d3] }
  | _ => none }
def PixelAverageWrongFalsely : Prop := pixelAverageRow.holds Try.pinned (OpenSpec.ofChange pixelAverageWrong)

/-- 'compositorlaw08.PixelOverAssociativity': WHATEVER THE INPUT: true; the input reads as it did. -/
def pixelOverAssociativitySpec : ChangeSpec := { name := "pixelOverAssociativity", fn := fun _ => fun
  | [d1, d2, d3] => { results := [.lit (.bool true)], args := [d1, d2, d3] }
  | _ => none }
def pixelOverAssociativityRow : OpenClaim := { program := "ytdhjbdofklglgaa", sum := "64bfa63972c9f0e5bc57c9455a0790e7f42c8ba24f9110889526aad30091568a", func := "compositor/compositorlaw08.PixelOverAssociativity", spec := "pixelOverAssociativity", unfollowed := true, recurses := true, apart := false }
def PixelOverAssociativitySaid : Prop := pixelOverAssociativityRow.holds Try.pinned (OpenSpec.ofChange pixelOverAssociativitySpec)

/-- ITS FALSE NEIGHBOUR: 'it returns false'. Refute it at one input. -/
def pixelOverAssociativityWrong : ChangeSpec := { name := "pixelOverAssociativity", fn := fun _ => fun
  | [d1, d2, d3] => { results := [.lit (.bool false)], args := [d1, d2, d3] }
  | _ => none }
def PixelOverAssociativityWrongFalsely : Prop := pixelOverAssociativityRow.holds Try.pinned (OpenSpec.ofChange pixelOverAssociativityWrong)

/-- 'compositorlaw08.PixelOverIdentities': WHATEVER THE INPUT: true; the input reads as it did. -/
def pixelOverIdentitiesSpec : ChangeSpec := { name := "pixelOverIdentities", fn := fun _ => fun
  | [d1, d2] => { results := [.lit (.bool true)], args := [d1, d2] }
  | _ => none }
def pixelOverIdentitiesRow : OpenClaim := { program := "ytdhjbdofklglgaa", sum := "64bfa63972c9f0e5bc57c9455a0790e7f42c8ba24f9110889526aad30091568a", func := "compositor/compositorlaw08.PixelOverIdentities", spec := "pixelOverIdentities", unfollowed := true, recurses := true, apart := false }
def PixelOverIdentitiesSaid : Prop := pixelOverIdentitiesRow.holds Try.pinned (OpenSpec.ofChange pixelOverIdentitiesSpec)

/-- ITS FALSE NEIGHBOUR: 'it returns false'. Refute it at one input. -/
def pixelOverIdentitiesWrong : ChangeSpec := { name := "pixelOverIdentities", fn := fun _ => fun
  | [d1, d2] => { results := [.lit (.bool false)], args := [d1, d2] }
  | _ => none }
def PixelOverIdentitiesWrongFalsely : Prop := pixelOverIdentitiesRow.holds Try.pinned (OpenSpec.ofChange pixelOverIdentitiesWrong)

/-- 'compositorlaw08.PixelValidity': WHATEVER THE INPUT: true; the input reads as it did. -/
def pixelValiditySpec : ChangeSpec := { name := "pixelValidity", fn := fun _ => fun
  | [d1, d2, d3] => { results := [.lit (.bool true)], args := [d1, d2, d3] }
  | _ => none }
def pixelValidityRow : OpenClaim := { program := "ytdhjbdofklglgaa", sum := "64bfa63972c9f0e5bc57c9455a0790e7f42c8ba24f9110889526aad30091568a", func := "compositor/compositorlaw08.PixelValidity", spec := "pixelValidity", unfollowed := true, recurses := true, apart := false }
def PixelValiditySaid : Prop := pixelValidityRow.holds Try.pinned (OpenSpec.ofChange pixelValiditySpec)

/-- ITS FALSE NEIGHBOUR: 'it returns false'. Refute it at one input. -/
def pixelValidityWrong : ChangeSpec := { name := "pixelValidity", fn := fun _ => fun
  | [d1, d2, d3] => { results := [.lit (.bool false)], args := [d1, d2, d3] }
  | _ => none }
def PixelValidityWrongFalsely : Prop := pixelValidityRow.holds Try.pinned (OpenSpec.ofChange pixelValidityWrong)

/-- 'compositorlaw08.PixelBasics': WHATEVER THE INPUT: true; the input reads as it did. -/
def pixelBasicsSpec : ChangeSpec := { name := "pixelBasics", fn := fun _ => fun
  | [d1, d2] => { results := [.lit (.bool true)], args := [d1, d2] }
  | _ => none }
def pixelBasicsRow : OpenClaim := { program := "ytdhjbdofklglgaa", sum := "64bfa63972c9f0e5bc57c9455a0790e7f42c8ba24f9110889526aad30091568a", func := "compositor/compositorlaw08.PixelBasics", spec := "pixelBasics", unfollowed := true, recurses := true, apart := false }
def PixelBasicsSaid : Prop := pixelBasicsRow.holds Try.pinned (OpenSpec.ofChange pixelBasicsSpec)

/-- ITS FALSE NEIGHBOUR: 'it returns false'. Refute it at one input. -/
def pixelBasicsWrong : ChangeSpec := { name := "pixelBasics", fn := fun _ => fun
  | [d1, d2] => { results := [.lit (.bool false)], args := [d1, d2] }
  | _ => none }
def PixelBasicsWrongFalsely : Prop := pixelBasicsRow.holds Try.pinned (OpenSpec.ofChange pixelBasicsWrong)

/- THE SECOND FORM. 'bulk': how many values and letters a reading holds, each counted each time it is reached (what is shared counts as often as it is met; a slice's spare places count too). A statement '..UptoSaid' is the law's where the arguments, and the package variables that the reading takes, are together of bulk at most 1048576: NARROWER than '..Said'. Prove '..Said' where nothing that the law and all that it calls make is longer than what came in: it says more and counts as full. Else prove '..UptoSaid'. A law counts once. -/
mutual
def uptoBulk {H : Type} : DataW H → Nat
  | .lit (.string bytes) => bytes.length + 1
  | .lit _ => 1
  | .nil => 1
  | .ptr d => uptoBulk d + 1
  | .slice elems spare => uptoBulkAll elems + uptoBulkAll spare + 1
  | .agg parts => uptoBulkAll parts + 1
  | .iface _ d => uptoBulk d + 1
  | .map entries => uptoBulkEntries entries + 1
  | .held _ => 1
def uptoBulkAll {H : Type} : List (DataW H) → Nat
  | [] => 0
  | d :: r => uptoBulk d + uptoBulkAll r
def uptoBulkEntries {H : Type} : List (Lit × DataW H) → Nat
  | [] => 0
  | x :: r => uptoBulkEntry x + uptoBulkEntries r
def uptoBulkEntry {H : Type} : Lit × DataW H → Nat
  | (.string bytes, d) => bytes.length + uptoBulk d + 1
  | (_, d) => uptoBulk d + 1
 end
def uptoSmall : (H : Type) → List (DataW H) → Bool := fun _ ds => decide (uptoBulkAll ds ≤ 1048576)
def OpenSpec.upto (s : _root_.Go.ChangeSpec) : _root_.Go.OpenSpec := { _root_.Go.OpenSpec.ofChange s with cond := some uptoSmall }

/-- 'compositorlaw08.PixelArithmetic', WHERE WHAT IT READS IS OF BULK AT MOST 1048576: true; the input reads as it did. -/
def pixelArithmeticUptoRow : OpenClaim := { program := "ytdhjbdofklglgaa", sum := "64bfa63972c9f0e5bc57c9455a0790e7f42c8ba24f9110889526aad30091568a", func := "compositor/compositorlaw08.PixelArithmetic", spec := "pixelArithmetic", unfollowed := true, recurses := true, apart := false, narrowed := true }
def PixelArithmeticUptoSaid : Prop := pixelArithmeticUptoRow.holds Try.pinned (OpenSpec.upto pixelArithmeticSpec)

/-- 'compositorlaw08.PixelAverage', WHERE WHAT IT READS IS OF BULK AT MOST 1048576: true; the input reads as it did. -/
def pixelAverageUptoRow : OpenClaim := { program := "ytdhjbdofklglgaa", sum := "64bfa63972c9f0e5bc57c9455a0790e7f42c8ba24f9110889526aad30091568a", func := "compositor/compositorlaw08.PixelAverage", spec := "pixelAverage", unfollowed := true, recurses := true, apart := false, narrowed := true }
def PixelAverageUptoSaid : Prop := pixelAverageUptoRow.holds Try.pinned (OpenSpec.upto pixelAverageSpec)

/-- 'compositorlaw08.PixelOverAssociativity', WHERE WHAT IT READS IS OF BULK AT MOST 1048576: true; the input reads as it did. -/
def pixelOverAssociativityUptoRow : OpenClaim := { program := "ytdhjbdofklglgaa", sum := "64bfa63972c9f0e5bc57c9455a0790e7f42c8ba24f9110889526aad30091568a", func := "compositor/compositorlaw08.PixelOverAssociativity", spec := "pixelOverAssociativity", unfollowed := true, recurses := true, apart := false, narrowed := true }
def PixelOverAssociativityUptoSaid : Prop := pixelOverAssociativityUptoRow.holds Try.pinned (OpenSpec.upto pixelOverAssociativitySpec)

/-- 'compositorlaw08.PixelOverIdentities', WHERE WHAT IT READS IS OF BULK AT MOST 1048576: true; the input reads as it did. -/
def pixelOverIdentitiesUptoRow : OpenClaim := { program := "ytdhjbdofklglgaa", sum := "64bfa63972c9f0e5bc57c9455a0790e7f42c8ba24f9110889526aad30091568a", func := "compositor/compositorlaw08.PixelOverIdentities", spec := "pixelOverIdentities", unfollowed := true, recurses := true, apart := false, narrowed := true }
def PixelOverIdentitiesUptoSaid : Prop := pixelOverIdentitiesUptoRow.holds Try.pinned (OpenSpec.upto pixelOverIdentitiesSpec)

/-- 'compositorlaw08.PixelValidity', WHERE WHAT IT READS IS OF BULK AT MOST 1048576: true; the input reads as it did. -/
def pixelValidityUptoRow : OpenClaim := { program := "ytdhjbdofklglgaa", sum := "64bfa63972c9f0e5bc57c9455a0790e7f42c8ba24f9110889526aad30091568a", func := "compositor/compositorlaw08.PixelValidity", spec := "pixelValidity", unfollowed := true, recurses := true, apart := false, narrowed := true }
def PixelValidityUptoSaid : Prop := pixelValidityUptoRow.holds Try.pinned (OpenSpec.upto pixelValiditySpec)

/-- 'compositorlaw08.PixelBasics', WHERE WHAT IT READS IS OF BULK AT MOST 1048576: true; the input reads as it did. -/
def pixelBasicsUptoRow : OpenClaim := { program := "ytdhjbdofklglgaa", sum := "64bfa63972c9f0e5bc57c9455a0790e7f42c8ba24f9110889526aad30091568a", func := "compositor/compositorlaw08.PixelBasics", spec := "pixelBasics", unfollowed := true, recurses := true, apart := false, narrowed := true }
def PixelBasicsUptoSaid : Prop := pixelBasicsUptoRow.holds Try.pinned (OpenSpec.upto pixelBasicsSpec)

end Rows
end Go.Proofs.Ytdhjbdofklglgaa
