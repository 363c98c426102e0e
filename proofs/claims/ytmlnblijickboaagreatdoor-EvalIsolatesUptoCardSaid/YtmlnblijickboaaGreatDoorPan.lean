/-
  evalIsolates: closed facts of the row, each by itself.
-/
import Derived.Test.YtmlnblijickboaaGreatDoorPal
set_option linter.all false
set_option maxRecDepth 100000
namespace Go.Proofs.YtmlnblijickboaaGreatDoor.evalIsolates
open Go.ChangeShapes Go.WideShapes Go.RowKit
theorem k2:mapsRowed pB=true:=by kernel_rfl
theorem k3:fnB.params.all (pB.readableRec ·)=true:=by kernel_rfl
theorem k12:(rwB.named==pB.varsNamed fB)=true:=by kernel_rfl
theorem k13:(rwB.maps==(fnB.params.toList++spB.plain.varTypes pB).any (pB.mapsRec ·))=true:=by kernel_rfl
theorem k14:(rwB.ifaces==(fnB.params.toList++spB.plain.varTypes pB).any (pB.ifacesRec ·))=true:=by kernel_rfl
theorem k15:(rwB.mapsOut==pB.mapsAmong fnB.resultTypes.toList)=true:=by kernel_rfl
theorem k16:(rwB.loops==(fnB.params.toList++spB.plain.varTypes pB).any (pB.loopsFrom ·))=true:=by kernel_rfl
theorem k17:(rwB.wideKeys==(fnB.params.toList++spB.plain.varTypes pB++fnB.resultTypes.toList).any (pB.wideKeysFrom ·))=true:=by kernel_rfl
theorem k22:(rwB.plainKeys==pB.plainKeys)=true:=by kernel_rfl
end Go.Proofs.YtmlnblijickboaaGreatDoor.evalIsolates
