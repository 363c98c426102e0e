/-
  MachineNames returns true for every input, and changes nothing: for inputs of a bulk of at most 2^20 (the card of the second form).
-/
import Derived.Test.YtalbicndcfmbnaaGreatDoorSaq
import Derived.Test.YtalbicndcfmbnaaGreatDoorSar
import Derived.Test.YtalbicndcfmbnaaGreatDoorSas
set_option linter.all false
namespace Go.Proofs.YtalbicndcfmbnaaGreatDoor.machineNames
open Go.ChangeShapes Go.WideShapes Go.RowKit
theorem cardUpto:Rows.MachineNamesUptoCardSaid:=
 Claim7.holds_tied_plain_at .later [] _ _ _ _ wW (λ_ h=>by cases h) hwB (λ_ h=>by cases h) machineNamesUpto_row_tie rfl ⟨rfl,rfl⟩ hmB rfl plain hgB
end Go.Proofs.YtalbicndcfmbnaaGreatDoor.machineNames
