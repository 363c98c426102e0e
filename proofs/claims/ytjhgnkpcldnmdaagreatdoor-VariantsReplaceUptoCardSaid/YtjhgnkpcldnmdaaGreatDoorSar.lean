/-
  VariantsReplace returns true for every input, and changes nothing: for inputs of a bulk of at most 2^20 (the card of the second form).
-/
import Derived.Test.YtjhgnkpcldnmdaaGreatDoorSao
import Derived.Test.YtjhgnkpcldnmdaaGreatDoorSap
import Derived.Test.YtjhgnkpcldnmdaaGreatDoorSaq
set_option linter.unusedVariables false
namespace Go.Proofs.YtjhgnkpcldnmdaaGreatDoor.variantsReplace
open Go.ChangeShapes Go.WideShapes Go.RowKit
theorem cardUpto:Rows.VariantsReplaceUptoCardSaid:=
 Claim7.holds_tied_plain_at .later [] _ _ _ _ saidUpto (fun _ h=>by cases h) hwB (fun _ h=>by cases h) variantsReplaceUpto_row_tie rfl ⟨rfl,rfl⟩ hmB rfl plain hgB
end Go.Proofs.YtjhgnkpcldnmdaaGreatDoor.variantsReplace
