/-
  EvalIsolates returns true for every input, and changes nothing: for inputs of a bulk of at most 2^20 (the card of the second form).
-/
import Derived.Test.YtmlnblijickboaaGreatDoorPaq
import Derived.Test.YtmlnblijickboaaGreatDoorPar
import Derived.Test.YtmlnblijickboaaGreatDoorPas
set_option linter.all false
namespace Go.Proofs.YtmlnblijickboaaGreatDoor.evalIsolates
open Go.ChangeShapes Go.WideShapes Go.RowKit
theorem cardUpto:Rows.EvalIsolatesUptoCardSaid:=
 Claim7.holds_tied_plain_at .later [] _ _ _ _ eG (λ_ h=>by cases h) hwB (λ_ h=>by cases h) evalIsolatesUpto_row_tie rfl ⟨rfl,rfl⟩ hmB rfl plain hgB
end Go.Proofs.YtmlnblijickboaaGreatDoor.evalIsolates
