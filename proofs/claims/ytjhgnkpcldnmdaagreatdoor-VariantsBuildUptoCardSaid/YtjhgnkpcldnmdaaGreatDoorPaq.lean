/-
  VariantsBuild: what the card asks beside the row.
-/
import Derived.Test.YtjhgnkpcldnmdaaGreatDoorPak
import Derived.Test.YtjhgnkpcldnmdaaGreatDoorCards
set_option linter.unusedVariables false
namespace Go.Proofs.YtjhgnkpcldnmdaaGreatDoor.variantsBuild
open Go.ChangeShapes Go.WideShapes Go.RowKit
theorem hmB : pB.mainIs = some (true, ("4d9251a275165726684a450d570d20d71af5b70719506e22deca58642225be9d" : String).toList) := by kernel_rfl
theorem hwB:rwB.wfByText (Rows.OpenSpec.upto Rows.variantsBuildSpec)=true:=by kernel_rfl
theorem hgB:false=rwB.goesBy pB:=by kernel_rfl
end Go.Proofs.YtjhgnkpcldnmdaaGreatDoor.variantsBuild
