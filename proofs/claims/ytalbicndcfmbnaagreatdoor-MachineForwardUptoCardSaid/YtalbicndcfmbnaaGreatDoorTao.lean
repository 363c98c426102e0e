/-
  machineForward: closed facts of the row, each by itself.
-/
import Derived.Test.YtalbicndcfmbnaaGreatDoorTal
set_option linter.all false
namespace Go.Proofs.YtalbicndcfmbnaaGreatDoor.machineForward
open Go.ChangeShapes Go.WideShapes Go.RowKit
set_option maxRecDepth 100000 in
theorem k24:pB.stopsHeard=true:=by kernel_rfl
set_option maxRecDepth 100000 in
theorem k25:pB.mayEnter=true:=by kernel_rfl
set_option maxRecDepth 100000 in
theorem k26:(MI.lifted==pB.liftsFinal)=true:=by kernel_rfl
set_option maxRecDepth 100000 in
theorem k27:(pB.make==some MI.make)=true:=by kernel_rfl
set_option maxRecDepth 100000 in
theorem k30:(MI.veiled==(Sp.params.toList++spB.plain.varTypes pB++Sp.resultTypes.toList).any (pB.veiledRec ·))=true:=by kernel_rfl
set_option maxRecDepth 100000 in
theorem k31:MI.veiledFits pB Sp.params.toList (Sp.params.toList++spB.plain.varTypes pB++Sp.resultTypes.toList)=true:=by kernel_rfl
set_option maxRecDepth 100000 in
theorem Aup:pB.funcNamed MI.func=some fB:=by kernel_rfl
end Go.Proofs.YtalbicndcfmbnaaGreatDoor.machineForward
