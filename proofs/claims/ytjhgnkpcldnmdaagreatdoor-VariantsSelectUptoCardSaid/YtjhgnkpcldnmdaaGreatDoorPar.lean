/-
  VariantsSelect returns true for every input, and changes nothing: for inputs of a bulk of at most 2^20 (the card of the second form).
-/
import Derived.Test.YtjhgnkpcldnmdaaGreatDoorPao
import Derived.Test.YtjhgnkpcldnmdaaGreatDoorPap
import Derived.Test.YtjhgnkpcldnmdaaGreatDoorPaq
set_option linter.unusedVariables false
namespace Go.Proofs.YtjhgnkpcldnmdaaGreatDoor.variantsSelect
open Go.ChangeShapes Go.WideShapes Go.RowKit
theorem cardUpto:Rows.VariantsSelectUptoCardSaid:=
 Claim7.holds_tied_plain_at .later [] _ _ _ _ saidUpto (fun _ h=>by cases h) hwB (fun _ h=>by cases h) variantsSelectUpto_row_tie rfl ⟨rfl,rfl⟩ hmB rfl plain hgB
end Go.Proofs.YtjhgnkpcldnmdaaGreatDoor.variantsSelect
