/-
  VariantsFlat: what the card asks beside the row.
-/
import Derived.Test.YtkeebddaokieiaaGreatDoorPak
import Derived.Test.YtkeebddaokieiaaGreatDoorCards
set_option linter.unusedVariables false
namespace Go.Proofs.YtkeebddaokieiaaGreatDoor.variantsFlat
open Go.ChangeShapes Go.WideShapes Go.RowKit
theorem hmB : pB.mainIs = some (true, ("310914441ef3f3567e9963c00095bf47a2f4bf0227ab80f0977cc6c7e29ea49e" : String).toList) := by kernel_rfl
theorem hwB:rwB.wfByText (Rows.OpenSpec.upto Rows.variantsFlatSpec)=true:=by kernel_rfl
theorem hgB:false=rwB.goesBy pB:=by kernel_rfl
end Go.Proofs.YtkeebddaokieiaaGreatDoor.variantsFlat
