/-
  evalFlat: closed facts of the row, each by itself.
-/
import Derived.Test.YtkejfpeffolhpaaGreatDoorPal
set_option linter.all false
set_option maxRecDepth 100000
namespace Go.Proofs.YtkejfpeffolhpaaGreatDoor.evalFlat
open Go.ChangeShapes Go.WideShapes Go.RowKit
theorem k2:mapsRowed pB=true:=by kernel_rfl
theorem k3:UY.params.all (pB.readableRec ·)=true:=by kernel_rfl
theorem k12:(OZ.named==pB.varsNamed fB)=true:=by kernel_rfl
theorem k13:(OZ.maps==(UY.params.toList++spB.plain.varTypes pB).any (pB.mapsRec ·))=true:=by kernel_rfl
theorem k14:(OZ.ifaces==(UY.params.toList++spB.plain.varTypes pB).any (pB.ifacesRec ·))=true:=by kernel_rfl
theorem k15:(OZ.mapsOut==pB.mapsAmong UY.resultTypes.toList)=true:=by kernel_rfl
theorem k16:(OZ.loops==(UY.params.toList++spB.plain.varTypes pB).any (pB.loopsFrom ·))=true:=by kernel_rfl
theorem k17:(OZ.wideKeys==(UY.params.toList++spB.plain.varTypes pB++UY.resultTypes.toList).any (pB.wideKeysFrom ·))=true:=by kernel_rfl
theorem k22:(OZ.plainKeys==pB.plainKeys)=true:=by kernel_rfl
end Go.Proofs.YtkejfpeffolhpaaGreatDoor.evalFlat
