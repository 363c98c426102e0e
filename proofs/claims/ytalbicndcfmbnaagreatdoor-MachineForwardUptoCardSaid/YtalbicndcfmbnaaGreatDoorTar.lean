/-
  MachineForward: what the card asks beside the row.
-/
import Derived.Test.YtalbicndcfmbnaaGreatDoorTal
import Derived.Test.YtalbicndcfmbnaaGreatDoorCards
set_option linter.all false
namespace Go.Proofs.YtalbicndcfmbnaaGreatDoor.machineForward
open Go.ChangeShapes Go.WideShapes Go.RowKit
theorem hmB:pB.mainIs=some (true, ("6322a8086b9e6d0926d8ca0bca902c7cde26e3eee0229819cf7b643bc0eb779e" : String).toList) := by kernel_rfl
theorem hwB:MI.wfByText (Rows.OpenSpec.upto Rows.machineForwardSpec)=true:=by kernel_rfl
theorem hgB:false=MI.goesBy pB:=by kernel_rfl
end Go.Proofs.YtalbicndcfmbnaaGreatDoor.machineForward
