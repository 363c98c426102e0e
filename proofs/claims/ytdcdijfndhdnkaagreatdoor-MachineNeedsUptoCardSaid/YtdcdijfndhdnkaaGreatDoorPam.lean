/-
  machineNeeds: closed facts of the row, each by itself.
-/
import Derived.Test.YtdcdijfndhdnkaaGreatDoorPak
set_option linter.unusedVariables false
namespace Go.Proofs.YtdcdijfndhdnkaaGreatDoor.machineNeeds
open Go.ChangeShapes Go.WideShapes Go.RowKit
set_option maxRecDepth 100000 in
theorem k2:mapsRowed pB=true:=by kernel_rfl
set_option maxRecDepth 100000 in
theorem k3:fnB.params.all (pB.readableRec ·)=true:=by kernel_rfl
set_option maxRecDepth 100000 in
theorem k12:(rwB.named == pB.varsNamed fB)=true:=by kernel_rfl
set_option maxRecDepth 100000 in
theorem k13:(rwB.maps == (fnB.params.toList++spB.plain.varTypes pB).any (pB.mapsRec ·))=true:=by kernel_rfl
set_option maxRecDepth 100000 in
theorem k14:(rwB.ifaces == (fnB.params.toList++spB.plain.varTypes pB).any (pB.ifacesRec ·))=true:=by kernel_rfl
set_option maxRecDepth 100000 in
theorem k15:(rwB.mapsOut == pB.mapsAmong fnB.resultTypes.toList)=true:=by kernel_rfl
set_option maxRecDepth 100000 in
theorem k16:(rwB.loops == (fnB.params.toList++spB.plain.varTypes pB).any (pB.loopsFrom ·))=true:=by kernel_rfl
set_option maxRecDepth 100000 in
theorem k17:(rwB.wideKeys == (fnB.params.toList++spB.plain.varTypes pB++fnB.resultTypes.toList).any (pB.wideKeysFrom ·))=true:=by kernel_rfl
set_option maxRecDepth 100000 in
theorem k22:(rwB.plainKeys == pB.plainKeys)=true:=by kernel_rfl
end Go.Proofs.YtdcdijfndhdnkaaGreatDoor.machineNeeds
