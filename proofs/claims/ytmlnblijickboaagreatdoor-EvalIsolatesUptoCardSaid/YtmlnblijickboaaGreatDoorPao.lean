/-
  evalIsolates: closed facts of the row, each by itself.
-/
import Derived.Test.YtmlnblijickboaaGreatDoorPal
set_option linter.all false
set_option maxRecDepth 100000
namespace Go.Proofs.YtmlnblijickboaaGreatDoor.evalIsolates
open Go.ChangeShapes Go.WideShapes Go.RowKit
theorem k24:pB.stopsHeard=true:=by kernel_rfl
theorem k25:pB.mayEnter=true:=by kernel_rfl
theorem k26:(rwB.lifted==pB.liftsFinal)=true:=by kernel_rfl
theorem k27:(pB.make==some rwB.make)=true:=by kernel_rfl
theorem k30:(rwB.veiled==(fnB.params.toList++spB.plain.varTypes pB++fnB.resultTypes.toList).any (pB.veiledRec ·))=true:=by kernel_rfl
theorem k31:rwB.veiledFits pB fnB.params.toList (fnB.params.toList++spB.plain.varTypes pB++fnB.resultTypes.toList)=true:=by kernel_rfl
theorem Aud:pB.funcNamed rwB.func=some fB:=by kernel_rfl
end Go.Proofs.YtmlnblijickboaaGreatDoor.evalIsolates
