/-
  machineNames: closed facts of the row, each by itself.
-/
import Derived.Test.YtalbicndcfmbnaaGreatDoorSal
set_option linter.all false
namespace Go.Proofs.YtalbicndcfmbnaaGreatDoor.machineNames
open Go.ChangeShapes Go.WideShapes Go.RowKit
set_option maxRecDepth 100000 in
theorem k2:mapsRowed pB=true:=by kernel_rfl
set_option maxRecDepth 100000 in
theorem k3:Sr.params.all (pB.readableRec ·)=true:=by kernel_rfl
set_option maxRecDepth 100000 in
theorem k12:(MN.named==pB.varsNamed fB)=true:=by kernel_rfl
set_option maxRecDepth 100000 in
theorem k13:(MN.maps==(Sr.params.toList++spB.plain.varTypes pB).any (pB.mapsRec ·))=true:=by kernel_rfl
set_option maxRecDepth 100000 in
theorem k14:(MN.ifaces==(Sr.params.toList++spB.plain.varTypes pB).any (pB.ifacesRec ·))=true:=by kernel_rfl
set_option maxRecDepth 100000 in
theorem k15:(MN.mapsOut==pB.mapsAmong Sr.resultTypes.toList)=true:=by kernel_rfl
set_option maxRecDepth 100000 in
theorem k16:(MN.loops==(Sr.params.toList++spB.plain.varTypes pB).any (pB.loopsFrom ·))=true:=by kernel_rfl
set_option maxRecDepth 100000 in
theorem k17:(MN.wideKeys==(Sr.params.toList++spB.plain.varTypes pB++Sr.resultTypes.toList).any (pB.wideKeysFrom ·))=true:=by kernel_rfl
set_option maxRecDepth 100000 in
theorem k22:(MN.plainKeys==pB.plainKeys)=true:=by kernel_rfl
end Go.Proofs.YtalbicndcfmbnaaGreatDoor.machineNames
