/-
  machineUnreached: closed facts of the row, each by itself.
-/
import Derived.Test.YtalbicndcfmbnaaGreatDoorRal
set_option linter.all false
namespace Go.Proofs.YtalbicndcfmbnaaGreatDoor.machineUnreached
open Go.ChangeShapes Go.WideShapes Go.RowKit
set_option maxRecDepth 100000 in
theorem k24:pB.stopsHeard=true:=by kernel_rfl
set_option maxRecDepth 100000 in
theorem k25:pB.mayEnter=true:=by kernel_rfl
set_option maxRecDepth 100000 in
theorem k26:(MR.lifted==pB.liftsFinal)=true:=by kernel_rfl
set_option maxRecDepth 100000 in
theorem k27:(pB.make==some MR.make)=true:=by kernel_rfl
set_option maxRecDepth 100000 in
theorem k30:(MR.veiled==(Ss.params.toList++spB.plain.varTypes pB++Ss.resultTypes.toList).any (pB.veiledRec ·))=true:=by kernel_rfl
set_option maxRecDepth 100000 in
theorem k31:MR.veiledFits pB Ss.params.toList (Ss.params.toList++spB.plain.varTypes pB++Ss.resultTypes.toList)=true:=by kernel_rfl
set_option maxRecDepth 100000 in
theorem AtL:pB.funcNamed MR.func=some fB:=by kernel_rfl
end Go.Proofs.YtalbicndcfmbnaaGreatDoor.machineUnreached
