/-
  evalValues: closed facts of the row, each by itself.
-/
import Derived.Test.YtalbicndcfmbnaaGreatDoorPal
set_option linter.unusedVariables false
namespace Go.Proofs.YtalbicndcfmbnaaGreatDoor.evalValues
open Go.ChangeShapes Go.WideShapes Go.RowKit
set_option maxRecDepth 100000 in
theorem k1:laidOutB pB=true:=by kernel_rfl
set_option maxRecDepth 100000 in
theorem k9:(NA.inPlace==pB.inPlace fB)=true:=by kernel_rfl
set_option maxRecDepth 100000 in
theorem xV:(NA.unfollowed==pB.unfollowed fB)=true:=by kernel_rfl
set_option maxRecDepth 100000 in
theorem UF:(NA.recurses==pB.recurses fB)=true:=by kernel_rfl
end Go.Proofs.YtalbicndcfmbnaaGreatDoor.evalValues
