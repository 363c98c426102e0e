/-
  machineForward: closed facts of the row, each by itself.
-/
import Derived.Test.YtalbicndcfmbnaaGreatDoorTal
set_option linter.all false
namespace Go.Proofs.YtalbicndcfmbnaaGreatDoor.machineForward
open Go.ChangeShapes Go.WideShapes Go.RowKit
set_option maxRecDepth 100000 in
theorem k1:laidOutB pB=true:=by kernel_rfl
set_option maxRecDepth 100000 in
theorem k9:(MI.inPlace==pB.inPlace fB)=true:=by kernel_rfl
set_option maxRecDepth 100000 in
theorem k10:(MI.unfollowed==pB.unfollowed fB)=true:=by kernel_rfl
set_option maxRecDepth 100000 in
theorem k11:(MI.recurses==pB.recurses fB)=true:=by kernel_rfl
end Go.Proofs.YtalbicndcfmbnaaGreatDoor.machineForward
