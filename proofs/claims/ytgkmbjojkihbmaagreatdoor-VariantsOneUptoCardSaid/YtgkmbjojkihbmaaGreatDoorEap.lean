/-
  VariantsOne: what the card asks beside the row.
-/
import Derived.Test.YtgkmbjojkihbmaaGreatDoorEaj
import Derived.Test.YtgkmbjojkihbmaaGreatDoorCards
set_option linter.unusedVariables false
namespace Go.Proofs.YtgkmbjojkihbmaaGreatDoor.variantsOne
open Go.ChangeShapes Go.WideShapes Go.RowKit
theorem hmB : pB.mainIs = some (true, ("4a84c9cce407c54bde7034dd4b41ec9f1156e95f918e509358b3cab71c96276b" : String).toList) := by kernel_rfl
theorem hwB:rwB.wfByText (Rows.OpenSpec.upto Rows.variantsOneSpec)=true:=by kernel_rfl
theorem hgB:false=rwB.goesBy pB:=by kernel_rfl
end Go.Proofs.YtgkmbjojkihbmaaGreatDoor.variantsOne
