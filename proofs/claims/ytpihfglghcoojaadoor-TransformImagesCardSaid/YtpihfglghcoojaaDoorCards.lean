/-
  DERIVED. GIVEN WITH THE SEED: THE CARDS: each row of YtpihfglghcoojaaDoorRows.lean that lists a variable, with what it lists TIED to the program's text (the seventh form; the later family's looks); each row that meets fmt, with fmt's text TOLD by the authors' own Lean function (tested against real Go, not proved from fmt's source: count such statements apart). THE CARD IS WHAT COUNTS. Prove the row's statement (the work); the ties are given (YtpihfglghcoojaaDoorTie.lean); close each card by the builder's one call (the guide's Derived/Test/ToyasCard.lean, 'card_holds'). Laid BY PROGRAM, IN A SANDBOX (cutbox-door.mjs). By AI agents, Wed Nov 11 2026. No macro, syntax, notation, axiom, sorry.
-/
import Derived.Test.YtpihfglghcoojaaDoorRows
import GoSem.ClaimSeven
namespace Go.Proofs.YtpihfglghcoojaaDoor
namespace Rows

/-- THE TIED CARD OF 'compositorlaw07.TransformTells'. -/
def transformTellsCard : Claim7 := { stood := { row := transformTellsRow, standIns := [], harness := (true, "1755503d3cf684b3fcd9af85fa43030a8e879d3215db142329dbd90ce4716e62"), looks := false }, kinds := [], alts := [], laidByText := true, laidKinds := [.data], laidTests := true, laidLooks := .later }
def TransformTellsCardSaid : Prop := Claim7.holds Tryd.pinned (.plain (OpenSpec.ofChange transformTellsSpec)) transformTellsCard

/-- THE TIED CARD OF 'compositorlaw07.TransformApplies'. -/
def transformAppliesCard : Claim7 := { stood := { row := transformAppliesRow, standIns := [], harness := (true, "1755503d3cf684b3fcd9af85fa43030a8e879d3215db142329dbd90ce4716e62"), looks := false }, kinds := [], alts := [], laidByText := true, laidKinds := [.data], laidTests := true, laidLooks := .later }
def TransformAppliesCardSaid : Prop := Claim7.holds Tryd.pinned (.plain (OpenSpec.ofChange transformAppliesSpec)) transformAppliesCard

/-- THE TIED CARD OF 'compositorlaw07.TransformGroup'. -/
def transformGroupCard : Claim7 := { stood := { row := transformGroupRow, standIns := [], harness := (true, "1755503d3cf684b3fcd9af85fa43030a8e879d3215db142329dbd90ce4716e62"), looks := false }, kinds := [], alts := [], laidByText := true, laidKinds := [.data], laidTests := true, laidLooks := .later }
def TransformGroupCardSaid : Prop := Claim7.holds Tryd.pinned (.plain (OpenSpec.ofChange transformGroupSpec)) transformGroupCard

/-- THE TIED CARD OF 'compositorlaw07.TransformComposes'. -/
def transformComposesCard : Claim7 := { stood := { row := transformComposesRow, standIns := [], harness := (true, "1755503d3cf684b3fcd9af85fa43030a8e879d3215db142329dbd90ce4716e62"), looks := false }, kinds := [], alts := [], laidByText := true, laidKinds := [.data], laidTests := true, laidLooks := .later }
def TransformComposesCardSaid : Prop := Claim7.holds Tryd.pinned (.plain (OpenSpec.ofChange transformComposesSpec)) transformComposesCard

/-- THE TIED CARD OF 'compositorlaw07.TransformRects'. -/
def transformRectsCard : Claim7 := { stood := { row := transformRectsRow, standIns := [], harness := (true, "1755503d3cf684b3fcd9af85fa43030a8e879d3215db142329dbd90ce4716e62"), looks := false }, kinds := [], alts := [], laidByText := true, laidKinds := [.data], laidTests := true, laidLooks := .later }
def TransformRectsCardSaid : Prop := Claim7.holds Tryd.pinned (.plain (OpenSpec.ofChange transformRectsSpec)) transformRectsCard

/-- THE TIED CARD OF 'compositorlaw07.TransformPixels'. -/
def transformPixelsCard : Claim7 := { stood := { row := transformPixelsRow, standIns := [], harness := (true, "1755503d3cf684b3fcd9af85fa43030a8e879d3215db142329dbd90ce4716e62"), looks := false }, kinds := [], alts := [], laidByText := true, laidKinds := [.data], laidTests := true, laidLooks := .later }
def TransformPixelsCardSaid : Prop := Claim7.holds Tryd.pinned (.plain (OpenSpec.ofChange transformPixelsSpec)) transformPixelsCard

/-- THE TIED CARD OF 'compositorlaw07.TransformImages'. -/
def transformImagesCard : Claim7 := { stood := { row := transformImagesRow, standIns := [], harness := (true, "1755503d3cf684b3fcd9af85fa43030a8e879d3215db142329dbd90ce4716e62"), looks := false }, kinds := [], alts := [], laidByText := true, laidKinds := [.data], laidTests := true, laidLooks := .later }
def TransformImagesCardSaid : Prop := Claim7.holds Tryd.pinned (.plain (OpenSpec.ofChange transformImagesSpec)) transformImagesCard

/-- THE SECOND FORM's CARD OF 'compositorlaw07.TransformTells'. -/
def transformTellsUptoCard : Claim7 := { stood := { row := transformTellsUptoRow, standIns := [], harness := (true, "1755503d3cf684b3fcd9af85fa43030a8e879d3215db142329dbd90ce4716e62"), looks := false }, kinds := [], alts := [], laidByText := true, laidKinds := [.data], laidTests := true, laidLooks := .later }
def TransformTellsUptoCardSaid : Prop := Claim7.holds Tryd.pinned (.plain (OpenSpec.upto transformTellsSpec)) transformTellsUptoCard

/-- THE SECOND FORM's CARD OF 'compositorlaw07.TransformApplies'. -/
def transformAppliesUptoCard : Claim7 := { stood := { row := transformAppliesUptoRow, standIns := [], harness := (true, "1755503d3cf684b3fcd9af85fa43030a8e879d3215db142329dbd90ce4716e62"), looks := false }, kinds := [], alts := [], laidByText := true, laidKinds := [.data], laidTests := true, laidLooks := .later }
def TransformAppliesUptoCardSaid : Prop := Claim7.holds Tryd.pinned (.plain (OpenSpec.upto transformAppliesSpec)) transformAppliesUptoCard

/-- THE SECOND FORM's CARD OF 'compositorlaw07.TransformGroup'. -/
def transformGroupUptoCard : Claim7 := { stood := { row := transformGroupUptoRow, standIns := [], harness := (true, "1755503d3cf684b3fcd9af85fa43030a8e879d3215db142329dbd90ce4716e62"), looks := false }, kinds := [], alts := [], laidByText := true, laidKinds := [.data], laidTests := true, laidLooks := .later }
def TransformGroupUptoCardSaid : Prop := Claim7.holds Tryd.pinned (.plain (OpenSpec.upto transformGroupSpec)) transformGroupUptoCard

/-- THE SECOND FORM's CARD OF 'compositorlaw07.TransformComposes'. -/
def transformComposesUptoCard : Claim7 := { stood := { row := transformComposesUptoRow, standIns := [], harness := (true, "1755503d3cf684b3fcd9af85fa43030a8e879d3215db142329dbd90ce4716e62"), looks := false }, kinds := [], alts := [], laidByText := true, laidKinds := [.data], laidTests := true, laidLooks := .later }
def TransformComposesUptoCardSaid : Prop := Claim7.holds Tryd.pinned (.plain (OpenSpec.upto transformComposesSpec)) transformComposesUptoCard

/-- THE SECOND FORM's CARD OF 'compositorlaw07.TransformRects'. -/
def transformRectsUptoCard : Claim7 := { stood := { row := transformRectsUptoRow, standIns := [], harness := (true, "1755503d3cf684b3fcd9af85fa43030a8e879d3215db142329dbd90ce4716e62"), looks := false }, kinds := [], alts := [], laidByText := true, laidKinds := [.data], laidTests := true, laidLooks := .later }
def TransformRectsUptoCardSaid : Prop := Claim7.holds Tryd.pinned (.plain (OpenSpec.upto transformRectsSpec)) transformRectsUptoCard

/-- THE SECOND FORM's CARD OF 'compositorlaw07.TransformPixels'. -/
def transformPixelsUptoCard : Claim7 := { stood := { row := transformPixelsUptoRow, standIns := [], harness := (true, "1755503d3cf684b3fcd9af85fa43030a8e879d3215db142329dbd90ce4716e62"), looks := false }, kinds := [], alts := [], laidByText := true, laidKinds := [.data], laidTests := true, laidLooks := .later }
def TransformPixelsUptoCardSaid : Prop := Claim7.holds Tryd.pinned (.plain (OpenSpec.upto transformPixelsSpec)) transformPixelsUptoCard

/-- THE SECOND FORM's CARD OF 'compositorlaw07.TransformImages'. -/
def transformImagesUptoCard : Claim7 := { stood := { row := transformImagesUptoRow, standIns := [], harness := (true, "1755503d3cf684b3fcd9af85fa43030a8e879d3215db142329dbd90ce4716e62"), looks := false }, kinds := [], alts := [], laidByText := true, laidKinds := [.data], laidTests := true, laidLooks := .later }
def TransformImagesUptoCardSaid : Prop := Claim7.holds Tryd.pinned (.plain (OpenSpec.upto transformImagesSpec)) transformImagesUptoCard
end Rows
end Go.Proofs.YtpihfglghcoojaaDoor
