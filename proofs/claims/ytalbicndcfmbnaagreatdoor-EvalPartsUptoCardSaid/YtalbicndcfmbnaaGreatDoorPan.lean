/-
  evalParts: closed facts of the row, each by itself.
-/
import Derived.Test.YtalbicndcfmbnaaGreatDoorPal
set_option linter.unusedVariables false
namespace Go.Proofs.YtalbicndcfmbnaaGreatDoor.evalParts
open Go.ChangeShapes Go.WideShapes Go.RowKit
set_option maxRecDepth 100000 in
theorem k2:mapsRowed pB=true:=by kernel_rfl
set_option maxRecDepth 100000 in
theorem k3:RJ.params.all (pB.readableRec ·)=true:=by kernel_rfl
set_option maxRecDepth 100000 in
theorem k12:(My.named==pB.varsNamed fB)=true:=by kernel_rfl
set_option maxRecDepth 100000 in
theorem k13:(My.maps==(RJ.params.toList++spB.plain.varTypes pB).any (pB.mapsRec ·))=true:=by kernel_rfl
set_option maxRecDepth 100000 in
theorem k14:(My.ifaces==(RJ.params.toList++spB.plain.varTypes pB).any (pB.ifacesRec ·))=true:=by kernel_rfl
set_option maxRecDepth 100000 in
theorem k15:(My.mapsOut==pB.mapsAmong RJ.resultTypes.toList)=true:=by kernel_rfl
set_option maxRecDepth 100000 in
theorem k16:(My.loops==(RJ.params.toList++spB.plain.varTypes pB).any (pB.loopsFrom ·))=true:=by kernel_rfl
set_option maxRecDepth 100000 in
theorem k17:(My.wideKeys==(RJ.params.toList++spB.plain.varTypes pB++RJ.resultTypes.toList).any (pB.wideKeysFrom ·))=true:=by kernel_rfl
set_option maxRecDepth 100000 in
theorem k22:(My.plainKeys==pB.plainKeys)=true:=by kernel_rfl
end Go.Proofs.YtalbicndcfmbnaaGreatDoor.evalParts
