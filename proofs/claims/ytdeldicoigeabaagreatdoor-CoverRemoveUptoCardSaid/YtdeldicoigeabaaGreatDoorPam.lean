/-
  coverRemove: closed facts of the row, each by itself.
-/
import Derived.Test.YtdeldicoigeabaaGreatDoorPak
set_option linter.all false
namespace Go.Proofs.YtdeldicoigeabaaGreatDoor.coverRemove
open Go.ChangeShapes Go.WideShapes Go.RowKit
set_option maxRecDepth 100000 in
theorem k2:mapsRowed pB=true:=by kernel_rfl
set_option maxRecDepth 100000 in
theorem k3:SM.params.all (pB.readableRec ·)=true:=by kernel_rfl
set_option maxRecDepth 100000 in
theorem Ij:(Ng.named==pB.varsNamed fB)=true:=by kernel_rfl
set_option maxRecDepth 100000 in
theorem IX:(Ng.maps==(SM.params.toList++BV.plain.varTypes pB).any (pB.mapsRec ·))=true:=by kernel_rfl
set_option maxRecDepth 100000 in
theorem KH:(Ng.ifaces==(SM.params.toList++BV.plain.varTypes pB).any (pB.ifacesRec ·))=true:=by kernel_rfl
set_option maxRecDepth 100000 in
theorem IP:(Ng.mapsOut==pB.mapsAmong SM.resultTypes.toList)=true:=by kernel_rfl
set_option maxRecDepth 100000 in
theorem HR:(Ng.loops==(SM.params.toList++BV.plain.varTypes pB).any (pB.loopsFrom ·))=true:=by kernel_rfl
set_option maxRecDepth 100000 in
theorem IL:(Ng.wideKeys==(SM.params.toList++BV.plain.varTypes pB++SM.resultTypes.toList).any (pB.wideKeysFrom ·))=true:=by kernel_rfl
set_option maxRecDepth 100000 in
theorem JO:(Ng.plainKeys==pB.plainKeys)=true:=by kernel_rfl
end Go.Proofs.YtdeldicoigeabaaGreatDoor.coverRemove
