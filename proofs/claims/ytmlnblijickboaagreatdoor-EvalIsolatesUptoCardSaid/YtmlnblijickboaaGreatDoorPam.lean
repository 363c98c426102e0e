/-
  evalIsolates: closed facts of the row, each by itself.
-/
import Derived.Test.YtmlnblijickboaaGreatDoorPal
set_option linter.all false
set_option maxRecDepth 100000
namespace Go.Proofs.YtmlnblijickboaaGreatDoor.evalIsolates
open Go.ChangeShapes Go.WideShapes Go.RowKit
theorem k1:laidOutB pB=true:=by kernel_rfl
theorem k9:(rwB.inPlace==pB.inPlace fB)=true:=by kernel_rfl
theorem k10:(rwB.unfollowed==pB.unfollowed fB)=true:=by kernel_rfl
theorem QA:(rwB.recurses==pB.recurses fB)=true:=by kernel_rfl
end Go.Proofs.YtmlnblijickboaaGreatDoor.evalIsolates
