/-
  machineForward: closed facts of the row, each by itself.
-/
import Derived.Test.YtalbicndcfmbnaaGreatDoorTal
set_option linter.all false
namespace Go.Proofs.YtalbicndcfmbnaaGreatDoor.machineForward
open Go.ChangeShapes Go.WideShapes Go.RowKit
set_option maxRecDepth 100000 in
theorem k2:mapsRowed pB=true:=by kernel_rfl
set_option maxRecDepth 100000 in
theorem k3:Sp.params.all (pB.readableRec ·)=true:=by kernel_rfl
set_option maxRecDepth 100000 in
theorem k12:(MI.named==pB.varsNamed fB)=true:=by kernel_rfl
set_option maxRecDepth 100000 in
theorem k13:(MI.maps==(Sp.params.toList++spB.plain.varTypes pB).any (pB.mapsRec ·))=true:=by kernel_rfl
set_option maxRecDepth 100000 in
theorem k14:(MI.ifaces==(Sp.params.toList++spB.plain.varTypes pB).any (pB.ifacesRec ·))=true:=by kernel_rfl
set_option maxRecDepth 100000 in
theorem k15:(MI.mapsOut==pB.mapsAmong Sp.resultTypes.toList)=true:=by kernel_rfl
set_option maxRecDepth 100000 in
theorem k16:(MI.loops==(Sp.params.toList++spB.plain.varTypes pB).any (pB.loopsFrom ·))=true:=by kernel_rfl
set_option maxRecDepth 100000 in
theorem k17:(MI.wideKeys==(Sp.params.toList++spB.plain.varTypes pB++Sp.resultTypes.toList).any (pB.wideKeysFrom ·))=true:=by kernel_rfl
set_option maxRecDepth 100000 in
theorem k22:(MI.plainKeys==pB.plainKeys)=true:=by kernel_rfl
end Go.Proofs.YtalbicndcfmbnaaGreatDoor.machineForward
