/-
  MachineUnreached returns true for every input, and changes nothing: for inputs of a bulk of at most 2^20 (the card of the second form).
-/
import Derived.Test.YtalbicndcfmbnaaGreatDoorRaq
import Derived.Test.YtalbicndcfmbnaaGreatDoorRar
import Derived.Test.YtalbicndcfmbnaaGreatDoorRas
set_option linter.all false
namespace Go.Proofs.YtalbicndcfmbnaaGreatDoor.machineUnreached
open Go.ChangeShapes Go.WideShapes Go.RowKit
theorem cardUpto:Rows.MachineUnreachedUptoCardSaid:=
 Claim7.holds_tied_plain_at .later [] _ _ _ _ mH (λ_ h=>by cases h) hwB (λ_ h=>by cases h) machineUnreachedUpto_row_tie rfl ⟨rfl,rfl⟩ hmB rfl plain hgB
end Go.Proofs.YtalbicndcfmbnaaGreatDoor.machineUnreached
