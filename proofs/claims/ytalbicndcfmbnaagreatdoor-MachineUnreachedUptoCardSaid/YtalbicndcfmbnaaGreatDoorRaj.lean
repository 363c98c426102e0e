/-
  MachineUnreached: the witness' world.
-/
import Derived.Test.YtalbicndcfmbnaaGreatDoorRai
set_option linter.all false
namespace Go.Proofs.YtalbicndcfmbnaaGreatDoor.machineUnreached
open Go.ChangeShapes Go.WideShapes Go.RowKit
theorem vT(a:Os):laidMetH Tryz.prog Rows.machineUnreachedUptoRow.laid ((World.laidAll Tryz.prog a Rows.machineUnreachedUptoRow.laid).forCall (λ_ _=>0) ⟨#[],Wk,[]⟩).memory:=by rw[MakeChecks.laidMetH_plain _ _ _ (by kernel_rfl)];exact laidMet_laidAll _ (by kernel_rfl) (by kernel_rfl)
end Go.Proofs.YtalbicndcfmbnaaGreatDoor.machineUnreached
