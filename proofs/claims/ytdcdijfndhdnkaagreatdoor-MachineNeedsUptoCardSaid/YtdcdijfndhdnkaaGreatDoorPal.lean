/-
  machineNeeds: closed facts of the row, each by itself.
-/
import Derived.Test.YtdcdijfndhdnkaaGreatDoorPak
set_option linter.unusedVariables false
namespace Go.Proofs.YtdcdijfndhdnkaaGreatDoor.machineNeeds
open Go.ChangeShapes Go.WideShapes Go.RowKit
set_option maxRecDepth 100000 in
theorem k1:laidOutB pB=true:=by kernel_rfl
set_option maxRecDepth 100000 in
theorem k9:(rwB.inPlace == pB.inPlace fB)=true:=by kernel_rfl
set_option maxRecDepth 100000 in
theorem k10:(rwB.unfollowed == pB.unfollowed fB)=true:=by kernel_rfl
set_option maxRecDepth 100000 in
theorem k11:(rwB.recurses == pB.recurses fB)=true:=by kernel_rfl
end Go.Proofs.YtdcdijfndhdnkaaGreatDoor.machineNeeds
