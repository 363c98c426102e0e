/-
  evalValues: closed facts of the row, each by itself.
-/
import Derived.Test.YtalbicndcfmbnaaGreatDoorPal
set_option linter.unusedVariables false
namespace Go.Proofs.YtalbicndcfmbnaaGreatDoor.evalValues
open Go.ChangeShapes Go.WideShapes Go.RowKit
set_option maxRecDepth 100000 in
theorem k24:pB.stopsHeard=true:=by kernel_rfl
set_option maxRecDepth 100000 in
theorem k25:pB.mayEnter=true:=by kernel_rfl
set_option maxRecDepth 100000 in
theorem k26:(NA.lifted==pB.liftsFinal)=true:=by kernel_rfl
set_option maxRecDepth 100000 in
theorem k27:(pB.make==some NA.make)=true:=by kernel_rfl
set_option maxRecDepth 100000 in
theorem k30:(NA.veiled==(SX.params.toList++spB.plain.varTypes pB++SX.resultTypes.toList).any (pB.veiledRec ·))=true:=by kernel_rfl
set_option maxRecDepth 100000 in
theorem k31:NA.veiledFits pB SX.params.toList (SX.params.toList++spB.plain.varTypes pB++SX.resultTypes.toList)=true:=by kernel_rfl
set_option maxRecDepth 100000 in
theorem ArK:pB.funcNamed NA.func=some fB:=by kernel_rfl
end Go.Proofs.YtalbicndcfmbnaaGreatDoor.evalValues
