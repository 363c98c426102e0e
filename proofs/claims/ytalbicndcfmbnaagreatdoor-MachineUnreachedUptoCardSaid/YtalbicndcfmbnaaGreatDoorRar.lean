/-
  MachineUnreached: what the card asks beside the row.
-/
import Derived.Test.YtalbicndcfmbnaaGreatDoorRal
import Derived.Test.YtalbicndcfmbnaaGreatDoorCards
set_option linter.all false
namespace Go.Proofs.YtalbicndcfmbnaaGreatDoor.machineUnreached
open Go.ChangeShapes Go.WideShapes Go.RowKit
theorem hmB:pB.mainIs=some (true, ("6322a8086b9e6d0926d8ca0bca902c7cde26e3eee0229819cf7b643bc0eb779e" : String).toList) := by kernel_rfl
theorem hwB:MR.wfByText (Rows.OpenSpec.upto Rows.machineUnreachedSpec)=true:=by kernel_rfl
theorem hgB:false=MR.goesBy pB:=by kernel_rfl
end Go.Proofs.YtalbicndcfmbnaaGreatDoor.machineUnreached
