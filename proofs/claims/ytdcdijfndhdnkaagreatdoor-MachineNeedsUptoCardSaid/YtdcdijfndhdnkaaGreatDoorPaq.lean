/-
  MachineNeeds: what the card asks beside the row.
-/
import Derived.Test.YtdcdijfndhdnkaaGreatDoorPak
import Derived.Test.YtdcdijfndhdnkaaGreatDoorCards
set_option linter.unusedVariables false
namespace Go.Proofs.YtdcdijfndhdnkaaGreatDoor.machineNeeds
open Go.ChangeShapes Go.WideShapes Go.RowKit
theorem hmB : pB.mainIs = some (true, ("6b66866b22b7fa013e7fa756209eda7a5bfcb427e314b010ca6067c6b83d5d6e" : String).toList) := by kernel_rfl
theorem hwB:rwB.wfByText (Rows.OpenSpec.upto Rows.machineNeedsSpec)=true:=by kernel_rfl
theorem hgB:false=rwB.goesBy pB:=by kernel_rfl
end Go.Proofs.YtdcdijfndhdnkaaGreatDoor.machineNeeds
