/-
  EvalIsolates: what the card asks beside the row.
-/
import Derived.Test.YtmlnblijickboaaGreatDoorPal
import Derived.Test.YtmlnblijickboaaGreatDoorCards
set_option linter.all false
namespace Go.Proofs.YtmlnblijickboaaGreatDoor.evalIsolates
open Go.ChangeShapes Go.WideShapes Go.RowKit
theorem hmB:pB.mainIs=some (true, ("f22a267c76e09011c9fc4a699f7accd979e6c2382db8ef05b290ba86ce05d28a" : String).toList) := by kernel_rfl
theorem hwB:rwB.wfByText (Rows.OpenSpec.upto Rows.evalIsolatesSpec)=true:=by kernel_rfl
theorem hgB:false=rwB.goesBy pB:=by kernel_rfl
end Go.Proofs.YtmlnblijickboaaGreatDoor.evalIsolates
