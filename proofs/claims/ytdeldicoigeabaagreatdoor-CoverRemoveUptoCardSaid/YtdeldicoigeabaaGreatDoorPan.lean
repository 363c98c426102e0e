/-
  coverRemove: closed facts of the row, each by itself.
-/
import Derived.Test.YtdeldicoigeabaaGreatDoorPak
set_option linter.all false
namespace Go.Proofs.YtdeldicoigeabaaGreatDoor.coverRemove
open Go.ChangeShapes Go.WideShapes Go.RowKit
set_option maxRecDepth 100000 in
theorem IJ:pB.stopsHeard=true:=by kernel_rfl
set_option maxRecDepth 100000 in
theorem HT:pB.mayEnter=true:=by kernel_rfl
set_option maxRecDepth 100000 in
theorem GH:(Ng.lifted==pB.liftsFinal)=true:=by kernel_rfl
set_option maxRecDepth 100000 in
theorem Kg:(pB.make==some Ng.make)=true:=by kernel_rfl
set_option maxRecDepth 100000 in
theorem Ik:(Ng.veiled==(SM.params.toList++BV.plain.varTypes pB++SM.resultTypes.toList).any (pB.veiledRec ·))=true:=by kernel_rfl
set_option maxRecDepth 100000 in
theorem JB:Ng.veiledFits pB SM.params.toList (SM.params.toList++BV.plain.varTypes pB++SM.resultTypes.toList)=true:=by kernel_rfl
set_option maxRecDepth 100000 in
theorem Awb:pB.funcNamed Ng.func=some fB:=by kernel_rfl
end Go.Proofs.YtdeldicoigeabaaGreatDoor.coverRemove
