/-
  MachineNeeds returns true for every input, and changes nothing: for inputs of a bulk of at most 2^20 (the card of the second form).
-/
import Derived.Test.YtdcdijfndhdnkaaGreatDoorPap
import Derived.Test.YtdcdijfndhdnkaaGreatDoorPaq
import Derived.Test.YtdcdijfndhdnkaaGreatDoorPar
set_option linter.unusedVariables false
namespace Go.Proofs.YtdcdijfndhdnkaaGreatDoor.machineNeeds
open Go.ChangeShapes Go.WideShapes Go.RowKit
theorem cardUpto:Rows.MachineNeedsUptoCardSaid:=
 Claim7.holds_tied_plain_at .later [] _ _ _ _ saidUpto (fun _ h=>by cases h) hwB (fun _ h=>by cases h) machineNeedsUpto_row_tie rfl ⟨rfl,rfl⟩ hmB rfl plain hgB
end Go.Proofs.YtdcdijfndhdnkaaGreatDoor.machineNeeds
