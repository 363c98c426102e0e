/-
  EvalValues: what the card asks beside the row.
-/
import Derived.Test.YtalbicndcfmbnaaGreatDoorPal
import Derived.Test.YtalbicndcfmbnaaGreatDoorCards
set_option linter.unusedVariables false
namespace Go.Proofs.YtalbicndcfmbnaaGreatDoor.evalValues
open Go.ChangeShapes Go.WideShapes Go.RowKit
theorem hmB:pB.mainIs=some (true, ("6322a8086b9e6d0926d8ca0bca902c7cde26e3eee0229819cf7b643bc0eb779e" : String).toList) := by kernel_rfl
theorem hwB:NA.wfByText (Rows.OpenSpec.upto Rows.evalValuesSpec)=true:=by kernel_rfl
theorem hgB:false=NA.goesBy pB:=by kernel_rfl
end Go.Proofs.YtalbicndcfmbnaaGreatDoor.evalValues
