/-
  MachineForward returns true for every input, and changes nothing: for inputs of a bulk of at most 2^20 (the card of the second form).
-/
import Derived.Test.YtalbicndcfmbnaaGreatDoorTaq
import Derived.Test.YtalbicndcfmbnaaGreatDoorTar
import Derived.Test.YtalbicndcfmbnaaGreatDoorTas
set_option linter.all false
namespace Go.Proofs.YtalbicndcfmbnaaGreatDoor.machineForward
open Go.ChangeShapes Go.WideShapes Go.RowKit
theorem cardUpto:Rows.MachineForwardUptoCardSaid:=
 Claim7.holds_tied_plain_at .later [] _ _ _ _ r5 (λ_ h=>by cases h) hwB (λ_ h=>by cases h) machineForwardUpto_row_tie rfl ⟨rfl,rfl⟩ hmB rfl plain hgB
end Go.Proofs.YtalbicndcfmbnaaGreatDoor.machineForward
