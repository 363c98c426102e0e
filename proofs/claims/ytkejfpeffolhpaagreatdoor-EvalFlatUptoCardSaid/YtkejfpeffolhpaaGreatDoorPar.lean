/-
  EvalFlat: what the card asks beside the row.
-/
import Derived.Test.YtkejfpeffolhpaaGreatDoorPal
import Derived.Test.YtkejfpeffolhpaaGreatDoorCards
set_option linter.all false
namespace Go.Proofs.YtkejfpeffolhpaaGreatDoor.evalFlat
open Go.ChangeShapes Go.WideShapes Go.RowKit
theorem hmB:pB.mainIs=some (true, ("3a477e4e20734c1ed5847367a8966401ae57aa0cde73dd1d76373763a09b28de" : String).toList) := by kernel_rfl
theorem hwB:OZ.wfByText (Rows.OpenSpec.upto Rows.evalFlatSpec)=true:=by kernel_rfl
theorem hgB:false=OZ.goesBy pB:=by kernel_rfl
end Go.Proofs.YtkejfpeffolhpaaGreatDoor.evalFlat
