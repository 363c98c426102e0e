/-
  CoverRemove returns true for every input, and changes nothing: for inputs of a bulk of at most 2^20 (the card of the second form).
-/
import Derived.Test.YtdeldicoigeabaaGreatDoorPap
import Derived.Test.YtdeldicoigeabaaGreatDoorPaq
import Derived.Test.YtdeldicoigeabaaGreatDoorPar
set_option linter.all false
namespace Go.Proofs.YtdeldicoigeabaaGreatDoor.coverRemove
open Go.ChangeShapes Go.WideShapes Go.RowKit
theorem cardUpto:Rows.CoverRemoveUptoCardSaid:=
 Claim7.holds_tied_plain_at .later [] _ _ _ _ BH (λ_ h=>by cases h) KM (λ_ h=>by cases h) coverRemoveUpto_row_tie rfl ⟨rfl,rfl⟩ Kz rfl plain Io
end Go.Proofs.YtdeldicoigeabaaGreatDoor.coverRemove
