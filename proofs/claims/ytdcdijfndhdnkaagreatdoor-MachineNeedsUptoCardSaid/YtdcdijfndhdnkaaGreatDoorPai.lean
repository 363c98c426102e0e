/-
  MachineNeeds: the witness' world.
-/
import Derived.Test.YtdcdijfndhdnkaaGreatDoorPah
set_option linter.unusedVariables false
namespace Go.Proofs.YtdcdijfndhdnkaaGreatDoor.machineNeeds
open Go.ChangeShapes Go.WideShapes Go.RowKit
theorem laid_met (os:Os):laidMetH Tryz.prog Rows.machineNeedsUptoRow.laid ((World.laidAll Tryz.prog os Rows.machineNeedsUptoRow.laid).forCall (fun _ _=>0) ⟨#[],wargs,[]⟩).memory:=by
 rw [MakeChecks.laidMetH_plain _ _ _ (by kernel_rfl)]
 exact laidMet_laidAll _ (by kernel_rfl) (by kernel_rfl)
end Go.Proofs.YtdcdijfndhdnkaaGreatDoor.machineNeeds
