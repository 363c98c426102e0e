/-
  VariantsFlat returns true for every locale and every message, and changes neither: for inputs of a bulk of at most 2^20 (the card of the second form).
-/
import Derived.Test.YtkeebddaokieiaaGreatDoorPap
import Derived.Test.YtkeebddaokieiaaGreatDoorPaq
import Derived.Test.YtkeebddaokieiaaGreatDoorPar
set_option linter.all false
set_option linter.unusedVariables false
namespace Go.Proofs.YtkeebddaokieiaaGreatDoor.variantsFlat
open Go.ChangeShapes Go.WideShapes Go.RowKit
theorem cardUpto:Rows.VariantsFlatUptoCardSaid:=
 Claim7.holds_tied_plain_at .later [] _ _ _ _ saidUpto (fun _ h=>by cases h) hwB (fun _ h=>by cases h) variantsFlatUpto_row_tie rfl ⟨rfl,rfl⟩ hmB rfl plain hgB
end Go.Proofs.YtkeebddaokieiaaGreatDoor.variantsFlat
