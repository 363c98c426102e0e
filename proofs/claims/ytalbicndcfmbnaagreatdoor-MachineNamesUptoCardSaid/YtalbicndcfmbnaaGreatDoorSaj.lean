/-
  MachineNames: the witness' world.
-/
import Derived.Test.YtalbicndcfmbnaaGreatDoorSai
set_option linter.all false
namespace Go.Proofs.YtalbicndcfmbnaaGreatDoor.machineNames
open Go.ChangeShapes Go.WideShapes Go.RowKit
theorem tR(a:Os):laidMetH Tryz.prog Rows.machineNamesUptoRow.laid ((World.laidAll Tryz.prog a Rows.machineNamesUptoRow.laid).forCall (λ_ _=>0) ⟨#[],Yf,[]⟩).memory:=by rw[MakeChecks.laidMetH_plain _ _ _ (by kernel_rfl)];exact laidMet_laidAll _ (by kernel_rfl) (by kernel_rfl)
end Go.Proofs.YtalbicndcfmbnaaGreatDoor.machineNames
