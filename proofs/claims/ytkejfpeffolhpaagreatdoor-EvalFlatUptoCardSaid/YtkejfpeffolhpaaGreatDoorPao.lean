/-
  evalFlat: closed facts of the row, each by itself.
-/
import Derived.Test.YtkejfpeffolhpaaGreatDoorPal
set_option linter.all false
set_option maxRecDepth 100000
namespace Go.Proofs.YtkejfpeffolhpaaGreatDoor.evalFlat
open Go.ChangeShapes Go.WideShapes Go.RowKit
theorem k24:pB.stopsHeard=true:=by kernel_rfl
theorem k25:pB.mayEnter=true:=by kernel_rfl
theorem k26:(OZ.lifted==pB.liftsFinal)=true:=by kernel_rfl
theorem k27:(pB.make==some OZ.make)=true:=by kernel_rfl
theorem k30:(OZ.veiled==(UY.params.toList++spB.plain.varTypes pB++UY.resultTypes.toList).any (pB.veiledRec ·))=true:=by kernel_rfl
theorem k31:OZ.veiledFits pB UY.params.toList (UY.params.toList++spB.plain.varTypes pB++UY.resultTypes.toList)=true:=by kernel_rfl
theorem Awy:pB.funcNamed OZ.func=some fB:=by kernel_rfl
end Go.Proofs.YtkejfpeffolhpaaGreatDoor.evalFlat
