/-
  machineUnreached: closed facts of the row, each by itself.
-/
import Derived.Test.YtalbicndcfmbnaaGreatDoorRal
set_option linter.all false
namespace Go.Proofs.YtalbicndcfmbnaaGreatDoor.machineUnreached
open Go.ChangeShapes Go.WideShapes Go.RowKit
set_option maxRecDepth 100000 in
theorem k2:mapsRowed pB=true:=by kernel_rfl
set_option maxRecDepth 100000 in
theorem k3:Ss.params.all (pB.readableRec ·)=true:=by kernel_rfl
set_option maxRecDepth 100000 in
theorem k12:(MR.named==pB.varsNamed fB)=true:=by kernel_rfl
set_option maxRecDepth 100000 in
theorem k13:(MR.maps==(Ss.params.toList++spB.plain.varTypes pB).any (pB.mapsRec ·))=true:=by kernel_rfl
set_option maxRecDepth 100000 in
theorem k14:(MR.ifaces==(Ss.params.toList++spB.plain.varTypes pB).any (pB.ifacesRec ·))=true:=by kernel_rfl
set_option maxRecDepth 100000 in
theorem k15:(MR.mapsOut==pB.mapsAmong Ss.resultTypes.toList)=true:=by kernel_rfl
set_option maxRecDepth 100000 in
theorem k16:(MR.loops==(Ss.params.toList++spB.plain.varTypes pB).any (pB.loopsFrom ·))=true:=by kernel_rfl
set_option maxRecDepth 100000 in
theorem k17:(MR.wideKeys==(Ss.params.toList++spB.plain.varTypes pB++Ss.resultTypes.toList).any (pB.wideKeysFrom ·))=true:=by kernel_rfl
set_option maxRecDepth 100000 in
theorem k22:(MR.plainKeys==pB.plainKeys)=true:=by kernel_rfl
end Go.Proofs.YtalbicndcfmbnaaGreatDoor.machineUnreached
