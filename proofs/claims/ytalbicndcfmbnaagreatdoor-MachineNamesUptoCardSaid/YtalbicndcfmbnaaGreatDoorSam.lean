/-
  machineNames: closed facts of the row, each by itself.
-/
import Derived.Test.YtalbicndcfmbnaaGreatDoorSal
set_option linter.all false
namespace Go.Proofs.YtalbicndcfmbnaaGreatDoor.machineNames
open Go.ChangeShapes Go.WideShapes Go.RowKit
set_option maxRecDepth 100000 in
theorem k1:laidOutB pB=true:=by kernel_rfl
set_option maxRecDepth 100000 in
theorem k9:(MN.inPlace==pB.inPlace fB)=true:=by kernel_rfl
set_option maxRecDepth 100000 in
theorem k10:(MN.unfollowed==pB.unfollowed fB)=true:=by kernel_rfl
set_option maxRecDepth 100000 in
theorem k11:(MN.recurses==pB.recurses fB)=true:=by kernel_rfl
end Go.Proofs.YtalbicndcfmbnaaGreatDoor.machineNames
