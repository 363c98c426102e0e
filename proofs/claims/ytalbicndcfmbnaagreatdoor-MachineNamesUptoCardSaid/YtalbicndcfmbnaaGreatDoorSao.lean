/-
  machineNames: closed facts of the row, each by itself.
-/
import Derived.Test.YtalbicndcfmbnaaGreatDoorSal
set_option linter.all false
namespace Go.Proofs.YtalbicndcfmbnaaGreatDoor.machineNames
open Go.ChangeShapes Go.WideShapes Go.RowKit
set_option maxRecDepth 100000 in
theorem k24:pB.stopsHeard=true:=by kernel_rfl
set_option maxRecDepth 100000 in
theorem k25:pB.mayEnter=true:=by kernel_rfl
set_option maxRecDepth 100000 in
theorem k26:(MN.lifted==pB.liftsFinal)=true:=by kernel_rfl
set_option maxRecDepth 100000 in
theorem k27:(pB.make==some MN.make)=true:=by kernel_rfl
set_option maxRecDepth 100000 in
theorem k30:(MN.veiled==(Sr.params.toList++spB.plain.varTypes pB++Sr.resultTypes.toList).any (pB.veiledRec ·))=true:=by kernel_rfl
set_option maxRecDepth 100000 in
theorem k31:MN.veiledFits pB Sr.params.toList (Sr.params.toList++spB.plain.varTypes pB++Sr.resultTypes.toList)=true:=by kernel_rfl
set_option maxRecDepth 100000 in
theorem AtU:pB.funcNamed MN.func=some fB:=by kernel_rfl
end Go.Proofs.YtalbicndcfmbnaaGreatDoor.machineNames
