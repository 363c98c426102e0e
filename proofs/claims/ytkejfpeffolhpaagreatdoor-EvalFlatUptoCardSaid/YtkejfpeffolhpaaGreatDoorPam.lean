/-
  evalFlat: closed facts of the row, each by itself.
-/
import Derived.Test.YtkejfpeffolhpaaGreatDoorPal
set_option linter.all false
set_option maxRecDepth 100000
namespace Go.Proofs.YtkejfpeffolhpaaGreatDoor.evalFlat
open Go.ChangeShapes Go.WideShapes Go.RowKit
theorem k1:laidOutB pB=true:=by kernel_rfl
theorem k9:(OZ.inPlace==pB.inPlace fB)=true:=by kernel_rfl
theorem k10:(OZ.unfollowed==pB.unfollowed fB)=true:=by kernel_rfl
theorem kB:(OZ.recurses==pB.recurses fB)=true:=by kernel_rfl
end Go.Proofs.YtkejfpeffolhpaaGreatDoor.evalFlat
