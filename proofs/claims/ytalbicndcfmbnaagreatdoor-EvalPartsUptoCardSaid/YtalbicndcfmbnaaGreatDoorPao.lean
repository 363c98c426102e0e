/-
  evalParts: closed facts of the row, each by itself.
-/
import Derived.Test.YtalbicndcfmbnaaGreatDoorPal
set_option linter.unusedVariables false
namespace Go.Proofs.YtalbicndcfmbnaaGreatDoor.evalParts
open Go.ChangeShapes Go.WideShapes Go.RowKit
set_option maxRecDepth 100000 in
theorem k24:pB.stopsHeard=true:=by kernel_rfl
set_option maxRecDepth 100000 in
theorem k25:pB.mayEnter=true:=by kernel_rfl
set_option maxRecDepth 100000 in
theorem k26:(My.lifted==pB.liftsFinal)=true:=by kernel_rfl
set_option maxRecDepth 100000 in
theorem k27:(pB.make==some My.make)=true:=by kernel_rfl
set_option maxRecDepth 100000 in
theorem k30:(My.veiled==(RJ.params.toList++spB.plain.varTypes pB++RJ.resultTypes.toList).any (pB.veiledRec ·))=true:=by kernel_rfl
set_option maxRecDepth 100000 in
theorem k31:My.veiledFits pB RJ.params.toList (RJ.params.toList++spB.plain.varTypes pB++RJ.resultTypes.toList)=true:=by kernel_rfl
set_option maxRecDepth 100000 in
theorem AoF:pB.funcNamed My.func=some fB:=by kernel_rfl
end Go.Proofs.YtalbicndcfmbnaaGreatDoor.evalParts
