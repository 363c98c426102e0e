/-
  machineNeeds: closed facts of the row, each by itself.
-/
import Derived.Test.YtdcdijfndhdnkaaGreatDoorPak
set_option linter.unusedVariables false
namespace Go.Proofs.YtdcdijfndhdnkaaGreatDoor.machineNeeds
open Go.ChangeShapes Go.WideShapes Go.RowKit
set_option maxRecDepth 100000 in
theorem k24:pB.stopsHeard=true:=by kernel_rfl
set_option maxRecDepth 100000 in
theorem k25:pB.mayEnter=true:=by kernel_rfl
set_option maxRecDepth 100000 in
theorem k26:(rwB.lifted == pB.liftsFinal)=true:=by kernel_rfl
set_option maxRecDepth 100000 in
theorem k27:(pB.make == some rwB.make)=true:=by kernel_rfl
set_option maxRecDepth 100000 in
theorem k30:(rwB.veiled == (fnB.params.toList++spB.plain.varTypes pB++fnB.resultTypes.toList).any (pB.veiledRec ·))=true:=by kernel_rfl
set_option maxRecDepth 100000 in
theorem k31:rwB.veiledFits pB fnB.params.toList (fnB.params.toList++spB.plain.varTypes pB++fnB.resultTypes.toList)=true:=by kernel_rfl
set_option maxRecDepth 100000 in
theorem hfnB:pB.funcNamed rwB.func=some fB:=by kernel_rfl
end Go.Proofs.YtdcdijfndhdnkaaGreatDoor.machineNeeds
