/-
  MachineForward: the witness' world.
-/
import Derived.Test.YtalbicndcfmbnaaGreatDoorTai
set_option linter.all false
namespace Go.Proofs.YtalbicndcfmbnaaGreatDoor.machineForward
open Go.ChangeShapes Go.WideShapes Go.RowKit
theorem vC(a:Os):laidMetH Tryz.prog Rows.machineForwardUptoRow.laid ((World.laidAll Tryz.prog a Rows.machineForwardUptoRow.laid).forCall (λ_ _=>0) ⟨#[],UN,[]⟩).memory:=by rw[MakeChecks.laidMetH_plain _ _ _ (by kernel_rfl)];exact laidMet_laidAll _ (by kernel_rfl) (by kernel_rfl)
end Go.Proofs.YtalbicndcfmbnaaGreatDoor.machineForward
