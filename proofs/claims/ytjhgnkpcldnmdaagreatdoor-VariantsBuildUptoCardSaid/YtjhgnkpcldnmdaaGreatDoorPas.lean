/-
  VariantsBuild returns true for every input, and changes nothing: for inputs of a bulk of at most 2^20 (the card of the second form).
-/
import Derived.Test.YtjhgnkpcldnmdaaGreatDoorPap
import Derived.Test.YtjhgnkpcldnmdaaGreatDoorPaq
import Derived.Test.YtjhgnkpcldnmdaaGreatDoorPar
set_option linter.unusedVariables false
namespace Go.Proofs.YtjhgnkpcldnmdaaGreatDoor.variantsBuild
open Go.ChangeShapes Go.WideShapes Go.RowKit
theorem cardUpto:Rows.VariantsBuildUptoCardSaid:=
 Claim7.holds_tied_plain_at .later [] _ _ _ _ saidUpto (fun _ h=>by cases h) hwB (fun _ h=>by cases h) variantsBuildUpto_row_tie rfl ⟨rfl,rfl⟩ hmB rfl plain hgB
end Go.Proofs.YtjhgnkpcldnmdaaGreatDoor.variantsBuild
