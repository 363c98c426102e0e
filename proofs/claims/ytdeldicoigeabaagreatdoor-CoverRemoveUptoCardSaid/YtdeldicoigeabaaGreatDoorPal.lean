/-
  coverRemove: closed facts of the row, each by itself.
-/
import Derived.Test.YtdeldicoigeabaaGreatDoorPak
set_option linter.all false
namespace Go.Proofs.YtdeldicoigeabaaGreatDoor.coverRemove
open Go.ChangeShapes Go.WideShapes Go.RowKit
set_option maxRecDepth 100000 in
theorem k1:laidOutB pB=true:=by kernel_rfl
set_option maxRecDepth 100000 in
theorem k9:(Ng.inPlace==pB.inPlace fB)=true:=by kernel_rfl
set_option maxRecDepth 100000 in
theorem wC:(Ng.unfollowed==pB.unfollowed fB)=true:=by kernel_rfl
set_option maxRecDepth 100000 in
theorem OV:(Ng.recurses==pB.recurses fB)=true:=by kernel_rfl
end Go.Proofs.YtdeldicoigeabaaGreatDoor.coverRemove
