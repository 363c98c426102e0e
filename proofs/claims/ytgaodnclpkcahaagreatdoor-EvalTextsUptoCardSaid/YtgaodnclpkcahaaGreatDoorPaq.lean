/-
  EvalTexts: what the card asks beside the row.
-/
import Derived.Test.YtgaodnclpkcahaaGreatDoorPak
import Derived.Test.YtgaodnclpkcahaaGreatDoorCards
set_option linter.unusedVariables false
namespace Go.Proofs.YtgaodnclpkcahaaGreatDoor.evalTexts
open Go.ChangeShapes Go.WideShapes Go.RowKit
theorem hmB : pB.mainIs = some (true, ("4347d8b0024ac22e78b458972571649c4c5153104695fadc02f11ff69bd5ee59" : String).toList) := by kernel_rfl
theorem hwB:rwB.wfByText (Rows.OpenSpec.upto Rows.evalTextsSpec)=true:=by kernel_rfl
theorem hgB:false=rwB.goesBy pB:=by kernel_rfl
end Go.Proofs.YtgaodnclpkcahaaGreatDoor.evalTexts
