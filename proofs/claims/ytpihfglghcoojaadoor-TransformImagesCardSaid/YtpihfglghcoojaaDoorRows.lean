/-
  NARROWER THAN 'FOR EVERY INPUT', by the rows' own cells (each row's printed sentence says how): TransformTells: laid · TransformApplies: laid · TransformGroup: laid · TransformComposes: laid · TransformRects: laid · TransformPixels: laid · TransformImages: laid.
  DERIVED. THE GIVEN ROWS OF THIS SEAT. 7 by the template 'for every input the law returns true; each argument reads behind the call as it read before'; 0 by the template 'total and deterministic' (their statements: YtpihfglghcoojaaDoorTotals.lean).
  GIVEN WITH THE SEED: the statements are not yours to turn. If you find one false, say at which input.
  Laid BY PROGRAM, IN A SANDBOX (cutbox-rows.mjs): the forced cells as the released guide's own fill.sh prints them over the translation 97627a6cfce203d2… (all of the seat's roots in one cut). By AI agents, Wed Nov 11 2026. No macro, syntax, notation, axiom, sorry.
-/
import Derived.Test.YtpihfglghcoojaaDoorChecked
import GoSem.Claim
import GoSem.ClaimJoined
import GoSem.ClaimMapViews
import Derived.JoinedTies
import Derived.KernelRfl
namespace Go.Proofs.YtpihfglghcoojaaDoor
/- THE CELL 'sum', in the pinned program and in every row, IS THE sha256 OF THE DUMP (.gsa) THAT YtpihfglghcoojaaDoorProg.lean LOADS. Nothing in Lean hashes anything: it is a label: what it is worth is what the hold of that sum in a sandbox is worth. -/
noncomputable def Tryd.pinned : Pinned := { name := "ytpihfglghcoojaadoor", sum := "97627a6cfce203d24d5eabdfb4bd91329578a84e7eeba442069adf43c8487849", checked := Tryd.checked }
namespace Rows
def none {H : Type} : Left H := { results := [], args := [] }

/- WHAT THE LISTED PACKAGE-LEVEL VARIABLES READ AS WHEN THE CALL BEGINS. Each datum BY PROGRAM (the guide's laid-datum.mjs) off the statement by which the dump's own 'gosem.cut.vars' lays the variable. In a bare row this is a premise. The card (YtpihfglghcoojaaDoorCards.lean) ties it to the program's text. -/
def laid_compositor_transform_products {H : Type} : DataW H := .agg [.lit (.int .i64 0), .lit (.int .i64 1), .lit (.int .i64 2), .lit (.int .i64 3), .lit (.int .i64 4), .lit (.int .i64 5), .lit (.int .i64 6), .lit (.int .i64 7), .lit (.int .i64 1), .lit (.int .i64 2), .lit (.int .i64 3), .lit (.int .i64 0), .lit (.int .i64 7), .lit (.int .i64 4), .lit (.int .i64 5), .lit (.int .i64 6), .lit (.int .i64 2), .lit (.int .i64 3), .lit (.int .i64 0), .lit (.int .i64 1), .lit (.int .i64 6), .lit (.int .i64 7), .lit (.int .i64 4), .lit (.int .i64 5), .lit (.int .i64 3), .lit (.int .i64 0), .lit (.int .i64 1), .lit (.int .i64 2), .lit (.int .i64 5), .lit (.int .i64 6), .lit (.int .i64 7), .lit (.int .i64 4), .lit (.int .i64 4), .lit (.int .i64 5), .lit (.int .i64 6), .lit (.int .i64 7), .lit (.int .i64 0), .lit (.int .i64 1), .lit (.int .i64 2), .lit (.int .i64 3), .lit (.int .i64 5), .lit (.int .i64 6), .lit (.int .i64 7), .lit (.int .i64 4), .lit (.int .i64 3), .lit (.int .i64 0), .lit (.int .i64 1), .lit (.int .i64 2), .lit (.int .i64 6), .lit (.int .i64 7), .lit (.int .i64 4), .lit (.int .i64 5), .lit (.int .i64 2), .lit (.int .i64 3), .lit (.int .i64 0), .lit (.int .i64 1), .lit (.int .i64 7), .lit (.int .i64 4), .lit (.int .i64 5), .lit (.int .i64 6), .lit (.int .i64 1), .lit (.int .i64 2), .lit (.int .i64 3), .lit (.int .i64 0)]

/-- 'compositorlaw07.TransformTells': WHATEVER THE INPUT: true; the input reads as it did. -/
def transformTellsSpec : ChangeSpec := { name := "transformTells", fn := fun _ => fun
  | [d1, d2, d3] => { results := [.lit (.bool true)], args := [d1, d2, d3] }
  | _ => none }
def transformTellsRow : OpenClaim := { program := "ytpihfglghcoojaadoor", sum := "97627a6cfce203d24d5eabdfb4bd91329578a84e7eeba442069adf43c8487849", func := "compositor/compositorlaw07.TransformTells", spec := "transformTells", named := ["compositor/transform.products"], apart := false, laid := [("compositor/transform.products", laid_compositor_transform_products)] }
def TransformTellsSaid : Prop := transformTellsRow.holds Tryd.pinned (OpenSpec.ofChange transformTellsSpec)

/-- ITS FALSE NEIGHBOUR: 'it returns false'. Refute it at one input. -/
def transformTellsWrong : ChangeSpec := { name := "transformTells", fn := fun _ => fun
  | [d1, d2, d3] => { results := [.lit (.bool false)], args := [d1, d2, d3] }
  | _ => none }
def TransformTellsWrongFalsely : Prop := transformTellsRow.holds Tryd.pinned (OpenSpec.ofChange transformTellsWrong)

/-- 'compositorlaw07.TransformApplies': WHATEVER THE INPUT: true; the input reads as it did. -/
def transformAppliesSpec : ChangeSpec := { name := "transformApplies", fn := fun _ => fun
  | [d1, d2] => { results := [.lit (.bool true)], args := [d1, d2] }
  | _ => none }
def transformAppliesRow : OpenClaim := { program := "ytpihfglghcoojaadoor", sum := "97627a6cfce203d24d5eabdfb4bd91329578a84e7eeba442069adf43c8487849", func := "compositor/compositorlaw07.TransformApplies", spec := "transformApplies", named := ["compositor/transform.products"], apart := false, laid := [("compositor/transform.products", laid_compositor_transform_products)] }
def TransformAppliesSaid : Prop := transformAppliesRow.holds Tryd.pinned (OpenSpec.ofChange transformAppliesSpec)

/-- ITS FALSE NEIGHBOUR: 'it returns false'. Refute it at one input. -/
def transformAppliesWrong : ChangeSpec := { name := "transformApplies", fn := fun _ => fun
  | [d1, d2] => { results := [.lit (.bool false)], args := [d1, d2] }
  | _ => none }
def TransformAppliesWrongFalsely : Prop := transformAppliesRow.holds Tryd.pinned (OpenSpec.ofChange transformAppliesWrong)

/-- 'compositorlaw07.TransformGroup': WHATEVER THE INPUT: true; the input reads as it did. -/
def transformGroupSpec : ChangeSpec := { name := "transformGroup", fn := fun _ => fun
  | [d1, d2, d3] => { results := [.lit (.bool true)], args := [d1, d2, d3] }
  | _ => none }
def transformGroupRow : OpenClaim := { program := "ytpihfglghcoojaadoor", sum := "97627a6cfce203d24d5eabdfb4bd91329578a84e7eeba442069adf43c8487849", func := "compositor/compositorlaw07.TransformGroup", spec := "transformGroup", named := ["compositor/transform.products"], apart := false, laid := [("compositor/transform.products", laid_compositor_transform_products)] }
def TransformGroupSaid : Prop := transformGroupRow.holds Tryd.pinned (OpenSpec.ofChange transformGroupSpec)

/-- ITS FALSE NEIGHBOUR: 'it returns false'. Refute it at one input. -/
def transformGroupWrong : ChangeSpec := { name := "transformGroup", fn := fun _ => fun
  | [d1, d2, d3] => { results := [.lit (.bool false)], args := [d1, d2, d3] }
  | _ => none }
def TransformGroupWrongFalsely : Prop := transformGroupRow.holds Tryd.pinned (OpenSpec.ofChange transformGroupWrong)

/-- 'compositorlaw07.TransformComposes': WHATEVER THE INPUT: true; the input reads as it did. -/
def transformComposesSpec : ChangeSpec := { name := "transformComposes", fn := fun _ => fun
  | [d1, d2, d3] => { results := [.lit (.bool true)], args := [d1, d2, d3] }
  | _ => none }
def transformComposesRow : OpenClaim := { program := "ytpihfglghcoojaadoor", sum := "97627a6cfce203d24d5eabdfb4bd91329578a84e7eeba442069adf43c8487849", func := "compositor/compositorlaw07.TransformComposes", spec := "transformComposes", named := ["compositor/transform.products"], apart := false, laid := [("compositor/transform.products", laid_compositor_transform_products)] }
def TransformComposesSaid : Prop := transformComposesRow.holds Tryd.pinned (OpenSpec.ofChange transformComposesSpec)

/-- ITS FALSE NEIGHBOUR: 'it returns false'. Refute it at one input. -/
def transformComposesWrong : ChangeSpec := { name := "transformComposes", fn := fun _ => fun
  | [d1, d2, d3] => { results := [.lit (.bool false)], args := [d1, d2, d3] }
  | _ => none }
def TransformComposesWrongFalsely : Prop := transformComposesRow.holds Tryd.pinned (OpenSpec.ofChange transformComposesWrong)

/-- 'compositorlaw07.TransformRects': WHATEVER THE INPUT: true; the input reads as it did. -/
def transformRectsSpec : ChangeSpec := { name := "transformRects", fn := fun _ => fun
  | [d1, d2] => { results := [.lit (.bool true)], args := [d1, d2] }
  | _ => none }
def transformRectsRow : OpenClaim := { program := "ytpihfglghcoojaadoor", sum := "97627a6cfce203d24d5eabdfb4bd91329578a84e7eeba442069adf43c8487849", func := "compositor/compositorlaw07.TransformRects", spec := "transformRects", named := ["compositor/transform.products"], apart := false, laid := [("compositor/transform.products", laid_compositor_transform_products)] }
def TransformRectsSaid : Prop := transformRectsRow.holds Tryd.pinned (OpenSpec.ofChange transformRectsSpec)

/-- ITS FALSE NEIGHBOUR: 'it returns false'. Refute it at one input. -/
def transformRectsWrong : ChangeSpec := { name := "transformRects", fn := fun _ => fun
  | [d1, d2] => { results := [.lit (.bool false)], args := [d1, d2] }
  | _ => none }
def TransformRectsWrongFalsely : Prop := transformRectsRow.holds Tryd.pinned (OpenSpec.ofChange transformRectsWrong)

/-- 'compositorlaw07.TransformPixels': WHATEVER THE INPUT: true; the input reads as it did. -/
def transformPixelsSpec : ChangeSpec := { name := "transformPixels", fn := fun _ => fun
  | [d1, d2] => { results := [.lit (.bool true)], args := [d1, d2] }
  | _ => none }
def transformPixelsRow : OpenClaim := { program := "ytpihfglghcoojaadoor", sum := "97627a6cfce203d24d5eabdfb4bd91329578a84e7eeba442069adf43c8487849", func := "compositor/compositorlaw07.TransformPixels", spec := "transformPixels", unfollowed := true, recurses := true, named := ["compositor/transform.products"], apart := false, laid := [("compositor/transform.products", laid_compositor_transform_products)] }
def TransformPixelsSaid : Prop := transformPixelsRow.holds Tryd.pinned (OpenSpec.ofChange transformPixelsSpec)

/-- ITS FALSE NEIGHBOUR: 'it returns false'. Refute it at one input. -/
def transformPixelsWrong : ChangeSpec := { name := "transformPixels", fn := fun _ => fun
  | [d1, d2] => { results := [.lit (.bool false)], args := [d1, d2] }
  | _ => none }
def TransformPixelsWrongFalsely : Prop := transformPixelsRow.holds Tryd.pinned (OpenSpec.ofChange transformPixelsWrong)

/-- 'compositorlaw07.TransformImages': WHATEVER THE INPUT: true; the input reads as it did. -/
def transformImagesSpec : ChangeSpec := { name := "transformImages", fn := fun _ => fun
  | [d1, d2, d3] => { results := [.lit (.bool true)], args := [d1, d2, d3] }
  | _ => none }
def transformImagesRow : OpenClaim := { program := "ytpihfglghcoojaadoor", sum := "97627a6cfce203d24d5eabdfb4bd91329578a84e7eeba442069adf43c8487849", func := "compositor/compositorlaw07.TransformImages", spec := "transformImages", unfollowed := true, recurses := true, named := ["compositor/transform.products"], apart := false, laid := [("compositor/transform.products", laid_compositor_transform_products)] }
def TransformImagesSaid : Prop := transformImagesRow.holds Tryd.pinned (OpenSpec.ofChange transformImagesSpec)

/-- ITS FALSE NEIGHBOUR: 'it returns false'. Refute it at one input. -/
def transformImagesWrong : ChangeSpec := { name := "transformImages", fn := fun _ => fun
  | [d1, d2, d3] => { results := [.lit (.bool false)], args := [d1, d2, d3] }
  | _ => none }
def TransformImagesWrongFalsely : Prop := transformImagesRow.holds Tryd.pinned (OpenSpec.ofChange transformImagesWrong)

/- THE SECOND FORM. 'bulk': how many values and letters a reading holds, each counted each time it is reached (what is shared counts as often as it is met; a slice's spare places count too). A statement '..UptoSaid' is the law's where the arguments, and the package variables that the reading takes, are together of bulk at most 1048576: NARROWER than '..Said'. Prove '..Said' where nothing that the law and all that it calls make is longer than what came in: it says more and counts as full. Else prove '..UptoSaid'. A law counts once. -/
mutual
def uptoBulk {H : Type} : DataW H → Nat
  | .lit (.string bytes) => bytes.length + 1
  | .lit _ => 1
  | .nil => 1
  | .ptr d => uptoBulk d + 1
  | .slice elems spare => uptoBulkAll elems + uptoBulkAll spare + 1
  | .agg parts => uptoBulkAll parts + 1
  | .iface _ d => uptoBulk d + 1
  | .map entries => uptoBulkEntries entries + 1
  | .held _ => 1
def uptoBulkAll {H : Type} : List (DataW H) → Nat
  | [] => 0
  | d :: r => uptoBulk d + uptoBulkAll r
def uptoBulkEntries {H : Type} : List (Lit × DataW H) → Nat
  | [] => 0
  | x :: r => uptoBulkEntry x + uptoBulkEntries r
def uptoBulkEntry {H : Type} : Lit × DataW H → Nat
  | (.string bytes, d) => bytes.length + uptoBulk d + 1
  | (_, d) => uptoBulk d + 1
 end
def uptoSmall : (H : Type) → List (DataW H) → Bool := fun _ ds => decide (uptoBulkAll ds ≤ 1048576)
def OpenSpec.upto (s : _root_.Go.ChangeSpec) : _root_.Go.OpenSpec := { _root_.Go.OpenSpec.ofChange s with cond := some uptoSmall }

/-- 'compositorlaw07.TransformTells', WHERE WHAT IT READS IS OF BULK AT MOST 1048576: true; the input reads as it did. -/
def transformTellsUptoRow : OpenClaim := { program := "ytpihfglghcoojaadoor", sum := "97627a6cfce203d24d5eabdfb4bd91329578a84e7eeba442069adf43c8487849", func := "compositor/compositorlaw07.TransformTells", spec := "transformTells", named := ["compositor/transform.products"], apart := false, laid := [("compositor/transform.products", laid_compositor_transform_products)], narrowed := true }
def TransformTellsUptoSaid : Prop := transformTellsUptoRow.holds Tryd.pinned (OpenSpec.upto transformTellsSpec)

/-- 'compositorlaw07.TransformApplies', WHERE WHAT IT READS IS OF BULK AT MOST 1048576: true; the input reads as it did. -/
def transformAppliesUptoRow : OpenClaim := { program := "ytpihfglghcoojaadoor", sum := "97627a6cfce203d24d5eabdfb4bd91329578a84e7eeba442069adf43c8487849", func := "compositor/compositorlaw07.TransformApplies", spec := "transformApplies", named := ["compositor/transform.products"], apart := false, laid := [("compositor/transform.products", laid_compositor_transform_products)], narrowed := true }
def TransformAppliesUptoSaid : Prop := transformAppliesUptoRow.holds Tryd.pinned (OpenSpec.upto transformAppliesSpec)

/-- 'compositorlaw07.TransformGroup', WHERE WHAT IT READS IS OF BULK AT MOST 1048576: true; the input reads as it did. -/
def transformGroupUptoRow : OpenClaim := { program := "ytpihfglghcoojaadoor", sum := "97627a6cfce203d24d5eabdfb4bd91329578a84e7eeba442069adf43c8487849", func := "compositor/compositorlaw07.TransformGroup", spec := "transformGroup", named := ["compositor/transform.products"], apart := false, laid := [("compositor/transform.products", laid_compositor_transform_products)], narrowed := true }
def TransformGroupUptoSaid : Prop := transformGroupUptoRow.holds Tryd.pinned (OpenSpec.upto transformGroupSpec)

/-- 'compositorlaw07.TransformComposes', WHERE WHAT IT READS IS OF BULK AT MOST 1048576: true; the input reads as it did. -/
def transformComposesUptoRow : OpenClaim := { program := "ytpihfglghcoojaadoor", sum := "97627a6cfce203d24d5eabdfb4bd91329578a84e7eeba442069adf43c8487849", func := "compositor/compositorlaw07.TransformComposes", spec := "transformComposes", named := ["compositor/transform.products"], apart := false, laid := [("compositor/transform.products", laid_compositor_transform_products)], narrowed := true }
def TransformComposesUptoSaid : Prop := transformComposesUptoRow.holds Tryd.pinned (OpenSpec.upto transformComposesSpec)

/-- 'compositorlaw07.TransformRects', WHERE WHAT IT READS IS OF BULK AT MOST 1048576: true; the input reads as it did. -/
def transformRectsUptoRow : OpenClaim := { program := "ytpihfglghcoojaadoor", sum := "97627a6cfce203d24d5eabdfb4bd91329578a84e7eeba442069adf43c8487849", func := "compositor/compositorlaw07.TransformRects", spec := "transformRects", named := ["compositor/transform.products"], apart := false, laid := [("compositor/transform.products", laid_compositor_transform_products)], narrowed := true }
def TransformRectsUptoSaid : Prop := transformRectsUptoRow.holds Tryd.pinned (OpenSpec.upto transformRectsSpec)

/-- 'compositorlaw07.TransformPixels', WHERE WHAT IT READS IS OF BULK AT MOST 1048576: true; the input reads as it did. -/
def transformPixelsUptoRow : OpenClaim := { program := "ytpihfglghcoojaadoor", sum := "97627a6cfce203d24d5eabdfb4bd91329578a84e7eeba442069adf43c8487849", func := "compositor/compositorlaw07.TransformPixels", spec := "transformPixels", unfollowed := true, recurses := true, named := ["compositor/transform.products"], apart := false, laid := [("compositor/transform.products", laid_compositor_transform_products)], narrowed := true }
def TransformPixelsUptoSaid : Prop := transformPixelsUptoRow.holds Tryd.pinned (OpenSpec.upto transformPixelsSpec)

/-- 'compositorlaw07.TransformImages', WHERE WHAT IT READS IS OF BULK AT MOST 1048576: true; the input reads as it did. -/
def transformImagesUptoRow : OpenClaim := { program := "ytpihfglghcoojaadoor", sum := "97627a6cfce203d24d5eabdfb4bd91329578a84e7eeba442069adf43c8487849", func := "compositor/compositorlaw07.TransformImages", spec := "transformImages", unfollowed := true, recurses := true, named := ["compositor/transform.products"], apart := false, laid := [("compositor/transform.products", laid_compositor_transform_products)], narrowed := true }
def TransformImagesUptoSaid : Prop := transformImagesUptoRow.holds Tryd.pinned (OpenSpec.upto transformImagesSpec)

end Rows
end Go.Proofs.YtpihfglghcoojaaDoor
