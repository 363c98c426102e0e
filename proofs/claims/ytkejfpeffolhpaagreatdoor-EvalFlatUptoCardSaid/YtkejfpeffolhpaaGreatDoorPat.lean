/-
  EvalFlat returns true for every input, and changes nothing: for inputs of a bulk of at most 2^20 (the card of the second form).
-/
import Derived.Test.YtkejfpeffolhpaaGreatDoorPaq
import Derived.Test.YtkejfpeffolhpaaGreatDoorPar
import Derived.Test.YtkejfpeffolhpaaGreatDoorPas
set_option linter.all false
namespace Go.Proofs.YtkejfpeffolhpaaGreatDoor.evalFlat
open Go.ChangeShapes Go.WideShapes Go.RowKit
theorem cardUpto:Rows.EvalFlatUptoCardSaid:=
 Claim7.holds_tied_plain_at .later [] _ _ _ _ kZ (λ_ h=>by cases h) hwB (λ_ h=>by cases h) evalFlatUpto_row_tie rfl ⟨rfl,rfl⟩ hmB rfl plain hgB
end Go.Proofs.YtkejfpeffolhpaaGreatDoor.evalFlat
