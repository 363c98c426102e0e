/-
  EvalTexts returns true for every input, and changes nothing: for inputs of a bulk of at most 2^20 (the card of the second form).
-/
import Derived.Test.YtgaodnclpkcahaaGreatDoorPap
import Derived.Test.YtgaodnclpkcahaaGreatDoorPaq
import Derived.Test.YtgaodnclpkcahaaGreatDoorPar
set_option linter.unusedVariables false
namespace Go.Proofs.YtgaodnclpkcahaaGreatDoor.evalTexts
open Go.ChangeShapes Go.WideShapes Go.RowKit
theorem cardUpto:Rows.EvalTextsUptoCardSaid:=
 Claim7.holds_tied_plain_at .later [] _ _ _ _ saidUpto (fun _ h=>by cases h) hwB (fun _ h=>by cases h) evalTextsUpto_row_tie rfl ⟨rfl,rfl⟩ hmB rfl plain hgB
end Go.Proofs.YtgaodnclpkcahaaGreatDoor.evalTexts
