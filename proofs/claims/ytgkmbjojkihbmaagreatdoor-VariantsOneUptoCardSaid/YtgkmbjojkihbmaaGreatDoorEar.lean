/-
  VariantsOne returns true for every input, and changes nothing: for inputs of a bulk of at most 2^20 (the card of the second form).
-/
import Derived.Test.YtgkmbjojkihbmaaGreatDoorEao
import Derived.Test.YtgkmbjojkihbmaaGreatDoorEap
import Derived.Test.YtgkmbjojkihbmaaGreatDoorEaq
set_option linter.unusedVariables false
namespace Go.Proofs.YtgkmbjojkihbmaaGreatDoor.variantsOne
open Go.ChangeShapes Go.WideShapes Go.RowKit
theorem cardUpto:Rows.VariantsOneUptoCardSaid:=
 Claim7.holds_tied_plain_at .later [] _ _ _ _ saidUpto (fun _ h=>by cases h) hwB (fun _ h=>by cases h) variantsOneUpto_row_tie rfl ⟨rfl,rfl⟩ hmB rfl plain hgB
end Go.Proofs.YtgkmbjojkihbmaaGreatDoor.variantsOne
